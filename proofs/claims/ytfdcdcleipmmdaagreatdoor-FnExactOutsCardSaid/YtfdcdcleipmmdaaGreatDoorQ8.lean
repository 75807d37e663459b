/- Part 8 of proofs that are told in their last texts. -/
import Derived.Test.YtfdcdcleipmmdaaGreatDoorQ7
import Derived.Test.YtfdcdcleipmmdaaGreatDoorQ1
import Derived.Test.YtfdcdcleipmmdaaGreatDoorQ5
import Derived.Test.YtfdcdcleipmmdaaGreatDoorQ2
import Derived.Test.YtfdcdcleipmmdaaGreatDoorQ6
import Derived.Test.YtfdcdcleipmmdaaGreatDoorQ3
open List (all_append ext_getElem? foldl_cons getElem?_mapIdx length_cons length_nil mem_append mem_append_left mem_append_right mem_singleton mem_singleton_self nil_append)
set_option linter.unusedVariables false
set_option linter.unusedSimpArgs false
set_option maxRecDepth 100000
set_option maxHeartbeats 1000000
namespace Go.Xg
open GV (U)
open Go.RowKit Go.Xw Go.Proofs Tryz
open Go.Xp (Tok Nd T br one levels iv eo eM dL dy pA)
open Go.Sp Go.Im
attribute [local irreducible] GW GL GO YG GC GA ba bc
structure Jk (f:Nat):Prop where
 expr:∀ d p t q x,p.ok->d+f<=1099511627776->iE f (.expr d) p=some (t,q)->GF prog 253 [.loc 0 0,.v (ii (d:Nat))] [bR p x] (qT t) [bR q x]
 level:∀ k d p t q x,p.ok->k<=9->d+f<=1099511627776->iE f (.level k d) p=some (t,q)->GF prog 263 [.loc 0 0,.v (ii (k:Nat)),.v (ii (d:Nat))] [bR p x] (qT t) [bR q x]
 operand:∀ d p t q x,p.ok->d+f<=1099511627776->iE f (.operand d) p=some (t,q)->GF prog 268 [.loc 0 0,.v (ii (d:Nat))] [bR p x] (qT t) [bR q x]
 exprs:∀ d p l q x,p.ok->d+f<=1099511627776->iA f d [] p=some (l,q)->GF prog 271 [.loc 0 0,.v (ii (d:Nat))] [bR p x] (.sl 1 (lh l)) [bR q x]
theorem IB:GF prog 239 [.v (ii 0),.v (ii 0),.v (sv []),.sl 1 []] [] (qT T.zero) []:=eY 0 0 [] [] [] rfl
theorem Vq {f:Nat} (C:Jk f) (d:Nat) (p:RS) (t:T) (q:RS) (x:PX) (hp:p.ok) (hd:d+(f+1)<=1099511627776) (h:iE (f+1) (.expr d) p=some (t,q)) :
  GF prog 253 [.loc 0 0,.v (ii (d:Nat))] [bR p x] (qT t) [bR q x]:=by
 rw [iE] at h;have ea:=xd p d x hp
 by_cases hc:(bT p d).code=0
 ·have dK:((bT p d).code==0)=true:=by simpa using hc
  rw [ae hc] at h;rw [dK] at ea;rw [pC hc] at h ea;have hl:=C.level 0 (d+1) p t q x hp ag ag h;refine ai func253 ntmps253 ?_;refine D [0] ea ?_;refine D [0] hl ?_;exact ak
 ·have dK:((bT p d).code==0)=false:=by simpa using hc
  rw [ab hc] at h;rw [dK] at ea;cases h;refine ai func253 ntmps253 ?_;refine D [0] ea ?_;refine D [] IB ?_;exact ak
theorem Ul {f:Nat} (C:∀ f',f'<=f->Jk f') (k d:Nat) (p:RS) (t:T) (q:RS) (x:PX) (hp:p.ok) (hk:k<=9) (hd:d+(f+1)<=1099511627776) (h:iE (f+1) (.level k d) p=some (t,q)) :
  GF prog 263 [.loc 0 0,.v (ii (k:Nat)),.v (ii (d:Nat))] [bR p x] (qT t) [bR q x]:=by
 rw [iE] at h
 by_cases wo:k=9
 ·subst wo;rw [ae rfl] at h;have ho:=(C f (aH _)).operand d p t q x hp ag h;refine ai func263 ntmps263 ?_;refine D [] uL ?_;refine D [0] ho ?_;exact ak
 ·rw [ab wo] at h
  have Z3:((k:Int)==9)=false:=by simp;omega
  cases he:iE f (.level (k+1) d) p with
  | none=>rw [he] at h;cases h
  | some r =>
   obtain ⟨out,p1⟩:=r;rw [he] at h;simp only at h;have lH:=((jL f).1 _ _ _ _ hp he).ok hp;have hl:=(C f (aH _)).level (k+1) d p out p1 x hp ag ag he;refine ai func263 ntmps263 ?_;refine D [] uL ?_;refine D [0] hl ?_;refine GW.loop (fun z:Nat × T × RS=>z.1) (fun z fr Γ=>fr=[.loc 0 0,.v (ii (k:Nat)),.v (ii (d:Nat)),U,U,U,U,qT z.2.1,U,U,U,U,U,U,U,U,U,U,U,U,U,U,U,U,U,U,U,U,U,U,U,U,U,U,U,U,U,U,U,U,U,U,U,U,U,U,U,U,U,U,U,U,U,U,U,U,U,U,U,U,U,U,U,U]/\Γ=[bR z.2.2 x]/\z.2.2.ok/\z.1<=f/\iE z.1 (.loop k d z.2.1) z.2.2=some (t,q)) (f,out,p1) ?_ ?_
   ·exact ⟨_,_,Wk.aK av,rfl,rfl,lH,aH _,h⟩
   ·clear h he hl;rintro ⟨g,out,p⟩ _ _ ⟨rfl,rfl,hp,il,h⟩;simp only at hp il h
    cases g with
    | zero=>simp [iE] at h
    | succ g =>
    rw [iE] at h
    have hk:k < 9:=by omega
    have ht:=so p 0 x hp aM
    by_cases hc:p.code=0
    ·have dK:(p.code==0)=true:=by simpa using hc
     by_cases h3:(tok p 0).kind=3
     ·have kZ:((tok p 0).kind==3)=true:=by simpa using h3
      have Oa:=Ki hk;have SB:=lx (levels.getD k []) (tok p 0).s (DS k hk)
      by_cases hit:(levels.getD k []).contains (tok p 0).s=true
      ·rw [ae ⟨hc,h3,hit⟩] at h;rw [hit] at SB;have ar:p.i < p.l.length:=sO (k:=0) ag;have cX:=hp.2
       cases hb:iE g (.level (k+1) d) p.next with
       | none=>rw [hb] at h;cases h
       | some r =>
        obtain ⟨b,p2⟩:=r;rw [hb] at h;simp only at h;have dA:=(dO ar).ok hp;have ed:=((jL g).1 _ _ _ _ dA hb).ok dA
        have kE:=(C g ag).level (k+1) d p.next b p2 x dA ag ag hb
        generalize tok p 0=tk at *;have jh:=eY 6 tk.at_ tk.s [out,b] [[qT out],[qT b]] (ir _);refine G ?_;refine aJ (aD 0 7 (.a 7 (aD 8 4 (.q 13 (.q 16 (.a 12 (.q 14 (.q 15 (.a 17 (.q 18 (.a 19 (.q 20 .nil)))))))))))) ?_;refine au ?_;refine bL [0] ht ?_;refine bL [] uL ?_;refine bL [0] ht ?_;refine bL [] SB ?_;refine G ?_;refine D [0] ht ?_;refine aJ (aD 0 9 (.a 9 (.a 10 (.a 11 (.q 12 .nil))))) ?_;refine au ?_;refine az [0] kE ?_;refine eZ ?_;refine au ?_;refine az [] jh ?_;refine G ?_;exact ⟨(g,one 6 tk.at_ tk.s [out,b],p2),⟨_,_,(Wk.cut (n:=1) (fi rfl) rfl).trans (Wk.aK av),rfl,rfl,ed,by omega,h⟩,by simp⟩
      ·have hit:(levels.getD k []).contains (tok p 0).s=false:=by simpa using hit
       rw [ab (by rw [hit];simp)] at h
       obtain ⟨rfl,rfl⟩:out=t/\p=q:=by simpa using h
       rw [hit] at SB;generalize tok p 0=tk at *;refine G ?_;refine aJ (aD 0 7 (.a 7 (aD 8 4 (.q 13 (.q 16 (.a 12 (.q 14 (.q 15 (.a 17 (.q 18 (.a 19 (.q 20 .nil)))))))))))) ?_;refine au ?_;refine bL [0] ht ?_;refine bL [] uL ?_;refine bL [0] ht ?_;refine bL [] SB ?_;refine dd ?_;exact ax
     ·have kZ:((tok p 0).kind==3)=false:=by simpa using h3
      rw [ab (fun hh=>h3 hh.2.1)] at h
      obtain ⟨rfl,rfl⟩:out=t/\p=q:=by simpa using h
      generalize tok p 0=tk at *;refine G ?_;refine aJ (aD 0 7 (.a 7 (aD 8 4 (.q 13 (.q 16 (.a 12 (.q 14 (.q 15 (.a 17 (.q 18 (.a 19 (.q 20 .nil)))))))))))) ?_;refine au ?_;refine bL [0] ht ?_;refine dd ?_;exact ax
    ·have dK:(p.code==0)=false:=by simpa using hc
     rw [ab (fun hh=>hc hh.1)] at h
     obtain ⟨rfl,rfl⟩:out=t/\p=q:=by simpa using h
     refine G ?_;refine aJ (aD 0 7 (.a 7 (aD 8 4 (.q 13 (.q 16 (.a 12 (.q 14 (.q 15 (.a 17 (.q 18 (.a 19 (.q 20 .nil)))))))))))) ?_;refine bj ?_;refine jQ ?_;exact ax
theorem TS {f:Nat} (C:∀ f',f'<=f->Jk f') (d:Nat) (p:RS) (l:List T) (q:RS) (x:PX) (hp:p.ok) (hd:d+(f+1)<=1099511627776) (h:iA (f+1) d [] p=some (l,q)) :
  GF prog 271 [.loc 0 0,.v (ii (d:Nat))] [bR p x] (.sl 1 (lh l)) [bR q x]:=by
 refine ai func271 ntmps271 ?_;refine GW.wk (Wk.DY (t:=5) (a:=none) (c:=0) 138 1 rfl) ?_;refine GW.loop (fun z:Nat × List T × RS=>z.1) (fun z fr Γ=>∃ n rows,fr=[.loc 0 0,.v (ii (d:Nat)),U,U,U,.vec 1 n,U,U,U,U,U,U,U,U,U,U,U,U,U,U,U,U,U,U,U,U,U,U,U,U,U,U]/\Γ=[bR z.2.2 x,.vec 138 1 0 rows]/\rows.length=n/\rows=lh z.2.1/\n+z.1<=f+1/\z.2.2.ok/\iA z.1 d z.2.1 z.2.2=some (l,q)) (f+1,[],p) ?_ ?_
 ·exact ⟨_,_,Wk.aK av,0,[],rfl,rfl,rfl,rfl,by simp,hp,h⟩
 ·clear h hp;rintro ⟨g,acc,p⟩ _ _ ⟨n,rows,rfl,rfl,hn,bG,AE,hp,h⟩;simp only at bG AE hp h
  cases g with
  | zero=>simp [iA] at h
  | succ g =>
  rw [iA] at h;have hi:=kL p 0 [41] x hp aM
  have lY:acc.length=n:=by rw [<-hn,bG,nH]
  by_cases hc:p.code=0
  ·have dK:(p.code==0)=true:=by simpa using hc
   cases hs:is p 0 [41] with
   | true =>
    rw [hs] at hi;rw [ab (fun hh=>by have:=hh.2;rw [hs] at this;cases this)] at h
    obtain ⟨rfl,rfl⟩:acc=l/\want p [41]=q:=by simpa using h
    have hw:=fB p [41] x hp;subst bG;refine G ?_;refine D [0] hi ?_;refine jQ ?_;refine G ?_;refine b6 ?_;refine G ?_;refine D [0] hw ?_;refine GW.wk (Wk.ki (t:=4) rfl rfl rfl hn) ?_;exact ak
   | false =>
    rw [hs] at hi;rw [ae ⟨hc,hs⟩] at h
    by_cases h0:acc.length=0
    ·rw [ae h0] at h
     have um:decide ((0:Int) < (n:Int))=false:=by simpa using by omega
     cases hb:iE g (.expr d) p with
     | none=>rw [hb] at h;cases h
     | some r =>
      obtain ⟨a,p2⟩:=r;rw [hb] at h;simp only at h;have ed:=((jL g).1 _ _ _ _ hp hb).ok hp;have he:=(C g ag).expr d p a p2 x hp ag hb;refine G ?_;refine D [0] hi ?_;refine D [0] he ?_;refine fG ?_;refine G ?_;exact ⟨(g,acc++[a],p2),⟨_,_,Wk.aK av,_,_,rfl,rfl,by simp [hn],by rw [wG,bG],by show n+1+g<=f+1;omega,ed,h⟩,by simp⟩
    ·rw [ab h0] at h
     have um:decide ((0:Int) < (n:Int))=true:=by simpa using by omega
     have mM:=(cw hp [44]).ok hp;have hw:=fB p [44] x hp
     cases hb:iE g (.expr d) (want p [44]) with
     | none=>rw [hb] at h;cases h
     | some r =>
      obtain ⟨a,p2⟩:=r;rw [hb] at h;simp only at h;have ed:=((jL g).1 _ _ _ _ mM hb).ok mM;have he:=(C g ag).expr d _ a p2 x mM ag hb;refine G ?_;refine D [0] hi ?_;refine b6 ?_;refine G ?_;refine D [0] hw ?_;refine D [0] he ?_;refine fG ?_;refine G ?_;exact ⟨(g,acc++[a],p2),⟨_,_,Wk.aK av,_,_,rfl,rfl,by simp [hn],by rw [wG,bG],by show n+1+g<=f+1;omega,ed,h⟩,by simp⟩
  ·have dK:(p.code==0)=false:=by simpa using hc
   rw [ab (fun hh=>hc hh.1)] at h
   obtain ⟨rfl,rfl⟩:acc=l/\want p [41]=q:=by simpa using h
   have hw:=fB p [41] x hp;subst bG;refine dd ?_;refine G ?_;refine b6 ?_;refine G ?_;refine D [0] hw ?_;refine GW.wk (Wk.ki (t:=4) rfl rfl rfl hn) ?_;exact ak
theorem O4 {f:Nat} (C:Jk f) (d:Nat) (p:RS) (t:T) (q:RS) (x:PX) (hp:p.ok) (hd:d+(f+1)<=1099511627776) (h:iE (f+1) (.operand d) p=some (t,q)) :
  GF prog 268 [.loc 0 0,.v (ii (d:Nat))] [bR p x] (qT t) [bR q x]:=by
 rw [iE] at h;have ea:=xd p d x hp;have ht:=so p 0 x hp aM
 by_cases hc:(bT p d).code=0
 case neg =>
  have dK:((bT p d).code==0)=false:=by simpa using hc
  rw [ab hc] at h;rw [dK] at ea;cases h;refine ai func268 ntmps268 ?_;refine D [0] ht ?_;refine D [0] ea ?_;refine D [] IB ?_;exact ak
 case pos =>
 have dK:((bT p d).code==0)=true:=by simpa using hc
 rw [ae hc] at h;rw [dK,pC hc] at ea;clear hc dK;have I:=kL p 0 [45] x hp aM;have F:=kL p 0 [33] x hp aM;have h3:=kL p 0 [126] x hp aM;have cX:=hp.2;have E8:=hp.1
 cases gk:is p 0 [45] with
 | true =>
  rw [gk] at I;rw [ae (.inl gk)] at h;have ar:p.i < p.l.length:=is_lt (k:=0) gk;have dA:=(dO ar).ok hp
  cases hb:iE f (.operand (d+1)) p.next with
  | none=>rw [hb] at h;cases h
  | some r =>
   obtain ⟨b,p2⟩:=r;rw [hb] at h;cases h
   have yO:=C.operand (d+1) p.next b _ x dA ag hb
   generalize tok p 0=tk at *;have jh:=eY 5 tk.at_ tk.s [b] [[qT b]] (ir _);refine ai func268 ntmps268 ?_;refine D [0] ht ?_;refine D [0] ea ?_;refine D [0] I ?_;refine aJ (aD 0 7 (.a 7 (.a 8 (.a 9 (.q 10 .nil))))) ?_;refine au ?_;refine az [0] yO ?_;refine eZ ?_;refine au ?_;refine az [] jh ?_;exact ax
 | false =>
 rw [gk] at I
 cases ji:is p 0 [33] with
 | true =>
  rw [ji] at F;rw [ae (.inr (.inl ji))] at h;have ar:p.i < p.l.length:=is_lt (k:=0) ji;have dA:=(dO ar).ok hp
  cases hb:iE f (.operand (d+1)) p.next with
  | none=>rw [hb] at h;cases h
  | some r =>
   obtain ⟨b,p2⟩:=r;rw [hb] at h;cases h
   have yO:=C.operand (d+1) p.next b _ x dA ag hb
   generalize tok p 0=tk at *;have jh:=eY 5 tk.at_ tk.s [b] [[qT b]] (ir _);refine ai func268 ntmps268 ?_;refine D [0] ht ?_;refine D [0] ea ?_;refine D [0] I ?_;refine D [0] F ?_;refine aJ (aD 0 7 (.a 7 (.a 8 (.a 9 (.q 10 .nil))))) ?_;refine au ?_;refine az [0] yO ?_;refine eZ ?_;refine au ?_;refine az [] jh ?_;exact ax
 | false =>
 rw [ji] at F
 cases pJ:is p 0 [126] with
 | true =>
  rw [pJ] at h3;rw [ae (.inr (.inr pJ))] at h;have ar:p.i < p.l.length:=is_lt (k:=0) pJ;have dA:=(dO ar).ok hp
  cases hb:iE f (.operand (d+1)) p.next with
  | none=>rw [hb] at h;cases h
  | some r =>
   obtain ⟨b,p2⟩:=r;rw [hb] at h;cases h
   have yO:=C.operand (d+1) p.next b _ x dA ag hb
   generalize tok p 0=tk at *;have jh:=eY 5 tk.at_ tk.s [b] [[qT b]] (ir _);refine ai func268 ntmps268 ?_;refine D [0] ht ?_;refine D [0] ea ?_;refine D [0] I ?_;refine D [0] F ?_;refine D [0] h3 ?_;refine aJ (aD 0 7 (.a 7 (.a 8 (.a 9 (.q 10 .nil))))) ?_;refine au ?_;refine az [0] yO ?_;refine eZ ?_;refine au ?_;refine az [] jh ?_;exact ax
 | false =>
 rw [pJ] at h3;rw [ab (by rw [gk,ji,pJ];decide)] at h
 by_cases hk:(tok p 0).kind=1
 case pos =>
  rw [ae hk] at h;have ar:p.i < p.l.length:=sO (k:=0) ag
  have mq:((tok p 0).kind==1)=true:=by simpa using hk
  cases h;generalize tok p 0=tk at *;have jh:=O0 1 tk.at_ [] [];refine ai func268 ntmps268 ?_;refine D [0] ht ?_;refine D [0] ea ?_;refine D [0] I ?_;refine D [0] F ?_;refine D [0] h3 ?_;refine D [] jh ?_;refine GW.wk (Wk.freeze (i:=2) rfl rfl rfl (fi rfl)) ?_;exact ak
 case neg =>
 rw [ab hk] at h
 have mq:((tok p 0).kind==1)=false:=by simpa using hk
 have h4:=kL p 0 [40] x hp aM
 cases hs4:is p 0 [40] with
 | true =>
  rw [hs4] at h4;rw [ae hs4] at h;have ar:p.i < p.l.length:=is_lt (k:=0) hs4;have dA:=(dO ar).ok hp
  cases hb:iE f (.expr (d+1)) p.next with
  | none=>rw [hb] at h;cases h
  | some r =>
   obtain ⟨b,p2⟩:=r;rw [hb] at h;cases h;have ed:=((jL f).1 _ _ _ _ dA hb).ok dA
   have yO:=C.expr (d+1) p.next _ p2 x dA ag hb
   have hw:=fB p2 [41] x ed;generalize tok p 0=tk at *;refine ai func268 ntmps268 ?_;refine D [0] ht ?_;refine D [0] ea ?_;refine D [0] I ?_;refine D [0] F ?_;refine D [0] h3 ?_;refine D [0] h4 ?_;refine D [0] yO ?_;refine b6 ?_;refine G ?_;refine D [0] hw ?_;exact ak
 | false =>
 rw [hs4] at h4;rw [ab (by rw [hs4];decide)] at h;have hn:=rP p x hp;have dA:=(iL hp).ok hp
 by_cases iX:(bu p).code=0
 case neg =>
  rw [ab iX] at h
  have ZU:((bu p).code != 0)=true:=by simpa using iX
  cases h;generalize tok p 0=tk at *;generalize bu p=p1 at *;have jh:=eY 2 tk.at_ tk.s [] [] rfl;refine ai func268 ntmps268 ?_;refine D [0] ht ?_;refine D [0] ea ?_;refine D [0] I ?_;refine D [0] F ?_;refine D [0] h3 ?_;refine D [0] h4 ?_;refine D [0] hn ?_;refine D [] jh ?_;exact ak
 case pos =>
 rw [ae iX] at h
 have ZU:((bu p).code != 0)=false:=by simpa using iX
 generalize bu p=p1 at *;generalize tok p 0=tk at *;have h5:=kL p1 0 [91] x dA aM;have aaY:=dA.2;have aaX:=dA.1
 cases hs5:is p1 0 [91] with
 | true =>
  rw [hs5] at h5;rw [ae hs5] at h;have ar:p1.i < p1.l.length:=is_lt (k:=0) hs5;have Hl:=(dO ar).ok dA
  cases hb:iE f (.expr (d+1)) p1.next with
  | none=>rw [hb] at h;cases h
  | some r =>
   obtain ⟨b,p2⟩:=r;rw [hb] at h;cases h;have ed:=((jL f).1 _ _ _ _ Hl hb).ok Hl
   have yO:=C.expr (d+1) p1.next b p2 x Hl ag hb
   have hw:=fB p2 [93] x ed;have jh:=eY 3 tk.at_ tk.s [b] [[qT b]] (ir _);refine ai func268 ntmps268 ?_;refine D [0] ht ?_;refine D [0] ea ?_;refine D [0] I ?_;refine D [0] F ?_;refine D [0] h3 ?_;refine D [0] h4 ?_;refine D [0] hn ?_;refine D [0] h5 ?_;refine D [0] yO ?_;refine b6 ?_;refine G ?_;refine D [0] hw ?_;refine b6 ?_;refine G ?_;refine D [] jh ?_;exact ak
 | false =>
 rw [hs5] at h5;rw [ab (by rw [hs5];decide)] at h;have h6:=kL p1 0 [40] x dA aM
 cases hs6:is p1 0 [40] with
 | true =>
  rw [hs6] at h6;rw [ae hs6] at h;have ar:p1.i < p1.l.length:=is_lt (k:=0) hs6;have Hl:=(dO ar).ok dA
  cases hb:iA f (d+1) [] p1.next with
  | none=>rw [hb] at h;cases h
  | some r =>
   obtain ⟨b,p2⟩:=r;rw [hb] at h;cases h
   have yO:=C.exprs (d+1) p1.next b _ x Hl ag hb
   have jh:=eY 4 tk.at_ tk.s b (lh b) rfl;refine ai func268 ntmps268 ?_;refine D [0] ht ?_;refine D [0] ea ?_;refine D [0] I ?_;refine D [0] F ?_;refine D [0] h3 ?_;refine D [0] h4 ?_;refine D [0] hn ?_;refine D [0] h5 ?_;refine D [0] h6 ?_;refine aJ (aD 0 6 (.a 6 (.a 7 (.q 8 .nil)))) ?_;refine au ?_;refine az [0] yO ?_;refine az [] jh ?_;exact ax
 | false =>
  rw [hs6] at h6;rw [ab (by rw [hs6];decide)] at h;cases h;have jh:=eY 2 tk.at_ tk.s [] [] rfl;refine ai func268 ntmps268 ?_;refine D [0] ht ?_;refine D [0] ea ?_;refine D [0] I ?_;refine D [0] F ?_;refine D [0] h3 ?_;refine D [0] h4 ?_;refine D [0] hn ?_;refine D [0] h5 ?_;refine D [0] h6 ?_;refine D [] jh ?_;exact ak
theorem Zk (f:Nat):Jk f:=by
 induction f using Nat.strongRecOn with
 | _ f ih =>
  cases f with
  | zero=>exact ⟨fun d p t q x _ _ h=>by simp [iE] at h,fun k d p t q x _ _ _ h=>by simp [iE] at h,fun d p t q x _ _ h=>by simp [iE] at h,fun d p l q x _ _ h=>by simp [iA] at h⟩
  | succ f =>
   have C:=ih f (Nat.lt_succ_self f)
   have Cs:∀ f',f'<=f->Jk f':=fun f' h=>ih f' (Nat.lt_succ_of_le h)
   exact ⟨fun d p t q x hp hd h=>Vq C d p t q x hp hd h,fun k d p t q x hp hk hd h=>Ul Cs k d p t q x hp hk hd h,fun d p t q x hp hd h=>O4 C d p t q x hp hd h,fun d p l q x hp hd h=>TS Cs d p l q x hp hd h⟩
end Go.Xg
namespace Go.Im
open Go.Xp Go.Sp
def W5 (f d:Nat) (p:RS):Option (T × RS) :=
 if (tok p 0).kind=2/\is p 1 [61]=true then match iE f (.expr (d+1)) (want (bu p) [61]) with
  | none=>none
  | some (e,q)=>some (one 7 (tok p 0).at_ (tok p 0).s [e],want q [59])
 else match iE f (.expr (d+1)) p with
  | none=>none
  | some (e,q) =>
   if xJ p q e then match e.kids,iE f (.expr (d+1)) (want q [61]) with
    | a::_,some (v,q)=>some (one 8 (tok p 0).at_ e.n.s [a,v],want q [59])
    | _,_=>none
   else some (one 12 (tok p 0).at_ [] [e],want q [59])
end Go.Im
namespace Go.Xg
open GV (U)
open Go.RowKit Go.Xw Go.Proofs Tryz
open Go.Xp (Tok Nd T br one levels iv eo eM dL dy pA)
open Go.Sp Go.Im
attribute [local irreducible] GW GL GO YG GC GA ba bc
theorem Ry {f:Nat} (d:Nat) (p:RS) (t:T) (q:RS) (x:PX) (hp:p.ok) (hd:d+1+f<=1099511627776) (h:W5 f d p=some (t,q)) :
  GF prog 254 [.loc 0 0,.v (ii (d:Nat))] [bR p x] (qT t) [bR q x]:=by
 unfold W5 at h;have C:=Zk f;have ht:=so p 0 x hp aM;have hi:=kL p 1 [61] x hp aM
 have main:∀ kk,((tok p 0).kind==2)=kk->(kk=true->is p 1 [61]=false)->GF prog 254 [.loc 0 0,.v (ii (d:Nat))] [bR p x] (qT t) [bR q x]:=by
  intro kk hk sB
  rw [ab (fun hh=>by
   have I:kk=true:=by rw [<-hk];simpa using hh.1
   have F:=sB I
   rw [hh.2] at F;cases F)] at h
  cases he:iE f (.expr (d+1)) p with
  | none=>rw [he] at h;cases h
  | some r =>
   obtain ⟨e,q1⟩:=r;rw [he] at h;simp only at h;have rB:=((jL f).1 _ _ _ _ hp he).ok hp;have aa3:=rB.1;have aa4:=rB.2;have hex:=C.expr (d+1) p e q1 x hp ag he;have SE:=kL q1 0 [61] x rB aM
   have G9:e.n.kind=3->q1.code=0->∃ AR,q1.l[q1.i - 1]?=some AR/\vr q1=AR.s/\1<=q1.i:=by
    intro _ hc;have I:=Wp f _ _ _ _ hp he hc (fun k d out h=>by cases h);have F:=rB.1
    have ar:q1.i - 1 < q1.l.length:=by omega
    exact ⟨q1.l[q1.i - 1],by simp [ar],by unfold vr;simp [ar],by omega⟩
   by_cases hput:xJ p q1 e
   ·rw [ae hput] at h;have lJ:=hput;obtain ⟨s1,s2,s3,s4,s5,s6⟩:=lJ;obtain ⟨AR,a1,a2,a3⟩:=G9 s1 s2
    have mr:kk=true:=by rw [<-hk];simpa using s5
    subst mr;have AB:=sB rfl;rw [AB] at hi;rw [s6] at SE
    match yM:e.kids,hv:iE f (.expr (d+1)) (want q1 [61]),h with
    | a::rk,some (v,q2),h =>
     cases h;have mM:=(cw rB [61]).ok rB;have J4:=((jL f).1 _ _ _ _ mM hv).ok mM;have hw:=fB q1 [61] x rB;have ZY:=C.expr (d+1) _ v q2 x mM ag hv;have pK:=fB q2 [59] x J4;have hr:=lq a1;have eE:(lh e.kids)[0]?=some [qT a]:=C9 (by rw [yM];rfl);have hr3:(lh (a::rk))[0]?=some [qT a]:=C9 rfl
     have b1:(e.n.kind==3)=true:=by simpa using s1
     have b2:(q1.code==0)=true:=by simpa using s2
     have b3:(AR.s==[93])=true:=by rw [<-a2];simpa using s3
     have b4:(e.n.at_==(tok p 0).at_)=true:=by simpa using s4
     have jh:=eY 8 (tok p 0).at_ e.n.s [a,v] [[qT a],[qT v]] (ir _);generalize tok p 0=tk at *;refine ai func254 ntmps254 ?_;refine D [0] ht ?_;refine D [0] hi ?_;refine D [0] hex ?_;refine aJ (aD 0 45 (.a 45 (.q 46 .nil))) ?_;refine au ?_;refine bL [0] SE ?_;refine G ?_;refine b6 ?_;refine G ?_;refine D [0] hw ?_;refine D [0] ZY ?_;refine b6 ?_;refine G ?_;refine D [0] pK ?_;refine aJ (aD 0 14 (.a 14 (.a 15 (.q 16 .nil)))) ?_;refine au ?_;refine eZ ?_;refine au ?_;refine az [] jh ?_;exact ax
    | [],_,h=>simp at h
    | _::_,none,h=>simp at h
   ·rw [ab hput] at h;cases h;have hw:=fB q1 [59] x rB;have jh:=eY 12 (tok p 0).at_ [] [e] [[qT e]] (ir _)
    cases kk with
    | true =>
     have AB:=sB rfl;rw [AB] at hi;refine ai func254 ntmps254 ?_;refine D [0] ht ?_;refine D [0] hi ?_;refine D [0] hex ?_;refine GW.join (fun fr Γ=>fr=[.loc 0 0,.v (ii (d:Nat)),U,U,U,.loc 1 0,U,U,qT e,U,U,U,U,U,U,U,U,U,U,U,U,U,U,U,U,U,U,U,U,U,U,U,U,U,U,U,U,U,U,U,U,U,U,U,U,U,U,U,U,U,U,U,U,U,U,U,U,U,U,U,U,U,U,U,U,U,U,U,U,U,U,U,U,U,U,U,U,U,U,U,U,U,U,U,U,U,U,.v (.bool false),U,U,U,U,U,U,U,U,U,U,U,U,U,U,U,U,U,U,U,U,U,U,U,U,U,U,U,U,U,U,U,U,U,U]/\Γ=[bR q1 x,.box 166 (dv (tok p 0))]) ?_ ?_
     ·by_cases s1:e.n.kind=3
      ·have b1:(e.n.kind==3)=true:=by simpa using s1
       by_cases s2:q1.code=0
       ·have b2:(q1.code==0)=true:=by simpa using s2
        obtain ⟨AR,a1,a2,a3⟩:=G9 s1 s2;have hr:=lq a1
        by_cases s3:vr q1=[93]
        ·have b3:(AR.s==[93])=true:=by rw [<-a2];simpa using s3
         by_cases s4:e.n.at_=(tok p 0).at_
         ·have b4:(e.n.at_==(tok p 0).at_)=true:=by simpa using s4
          have s6:is q1 0 [61]=false:=by
           cases h6:is q1 0 [61] with
           | false=>rfl
           | true=>exact absurd ⟨s1,s2,s3,s4,by simpa using hk,h6⟩ hput
          rw [s6] at SE;generalize tok p 0=tk at *;refine aJ (aD 0 45 (.a 45 (.q 46 .nil))) ?_;refine au ?_;refine bL [0] SE ?_;exact jd
         ·have b4:(e.n.at_==(tok p 0).at_)=false:=by simpa using s4
          generalize tok p 0=tk at *;refine aJ (aD 0 45 (.a 45 (.q 46 .nil))) ?_;refine bj ?_;exact jb
        ·have b3:(AR.s==[93])=false:=by rw [<-a2];simpa using s3
         generalize tok p 0=tk at *;refine aJ (aD 0 45 (.a 45 (.q 46 .nil))) ?_;refine bj ?_;exact jb
       ·have b2:(q1.code==0)=false:=by simpa using s2
        generalize tok p 0=tk at *;refine aJ (aD 0 45 (.a 45 (.q 46 .nil))) ?_;refine bj ?_;exact jb
      ·have b1:(e.n.kind==3)=false:=by simpa using s1
       generalize tok p 0=tk at *;refine aJ (aD 0 45 (.a 45 (.q 46 .nil))) ?_;refine bj ?_;exact jb
     ·rintro _ _ ⟨rfl,rfl⟩;generalize tok p 0=tk at *;refine G ?_;refine b6 ?_;refine G ?_;refine D [0] hw ?_;refine b6 ?_;refine G ?_;refine D [] jh ?_;exact ak
    | false =>
     refine ai func254 ntmps254 ?_;refine D [0] ht ?_;refine D [0] hex ?_;refine GW.join (fun fr Γ=>fr=[.loc 0 0,.v (ii (d:Nat)),U,U,U,.loc 1 0,U,U,qT e,U,U,U,U,U,U,U,U,U,U,U,U,U,U,U,U,U,U,U,U,U,U,U,U,U,U,U,U,U,U,U,U,U,U,U,U,U,U,U,U,U,U,U,U,U,U,U,U,U,U,U,U,U,U,U,U,U,U,U,U,U,U,U,U,U,U,U,U,U,U,U,U,U,U,U,U,U,U,.v (.bool false),U,U,U,U,U,U,U,U,U,U,U,U,U,U,U,U,U,U,U,U,U,U,U,U,U,U,U,U,U,U,U,U,U,U]/\Γ=[bR q1 x,.box 166 (dv (tok p 0))]) ?_ ?_
     ·by_cases s1:e.n.kind=3
      ·have b1:(e.n.kind==3)=true:=by simpa using s1
       by_cases s2:q1.code=0
       ·have b2:(q1.code==0)=true:=by simpa using s2
        obtain ⟨AR,a1,a2,a3⟩:=G9 s1 s2;have hr:=lq a1
        by_cases s3:vr q1=[93]
        ·have b3:(AR.s==[93])=true:=by rw [<-a2];simpa using s3
         by_cases s4:e.n.at_=(tok p 0).at_
         ·have b4:(e.n.at_==(tok p 0).at_)=true:=by simpa using s4
          generalize tok p 0=tk at *;refine aJ (aD 0 45 (.a 45 (.q 46 .nil))) ?_;refine bj ?_;exact jb
         ·have b4:(e.n.at_==(tok p 0).at_)=false:=by simpa using s4
          generalize tok p 0=tk at *;refine aJ (aD 0 45 (.a 45 (.q 46 .nil))) ?_;refine bj ?_;exact jb
        ·have b3:(AR.s==[93])=false:=by rw [<-a2];simpa using s3
         generalize tok p 0=tk at *;refine aJ (aD 0 45 (.a 45 (.q 46 .nil))) ?_;refine bj ?_;exact jb
       ·have b2:(q1.code==0)=false:=by simpa using s2
        generalize tok p 0=tk at *;refine aJ (aD 0 45 (.a 45 (.q 46 .nil))) ?_;refine bj ?_;exact jb
      ·have b1:(e.n.kind==3)=false:=by simpa using s1
       generalize tok p 0=tk at *;refine aJ (aD 0 45 (.a 45 (.q 46 .nil))) ?_;refine bj ?_;exact jb
     ·rintro _ _ ⟨rfl,rfl⟩;generalize tok p 0=tk at *;refine G ?_;refine b6 ?_;refine G ?_;refine D [0] hw ?_;refine b6 ?_;refine G ?_;refine D [] jh ?_;exact ak
 by_cases hk:(tok p 0).kind=2
 ·cases AB:is p 1 [61] with
  | true =>
   clear main;rw [ae ⟨hk,AB⟩] at h;rw [AB] at hi
   have mq:((tok p 0).kind==2)=true:=by simpa using hk
   have hn:=rP p x hp;have dA:=(iL hp).ok hp;have hw:=fB (bu p) [61] x dA;have mM:=(cw dA [61]).ok dA
   cases he:iE f (.expr (d+1)) (want (bu p) [61]) with
   | none=>rw [he] at h;cases h
   | some r =>
    obtain ⟨e,q1⟩:=r;rw [he] at h;cases h;have rB:=((jL f).1 _ _ _ _ mM he).ok mM;have hex:=C.expr (d+1) _ e q1 x mM ag he;have pK:=fB q1 [59] x rB;have jh:=eY 7 (tok p 0).at_ (tok p 0).s [e] [[qT e]] (ir _);generalize tok p 0=tk at *;refine ai func254 ntmps254 ?_;refine D [0] ht ?_;refine D [0] hi ?_;refine D [0] hn ?_;refine b6 ?_;refine G ?_;refine D [0] hw ?_;refine D [0] hex ?_;refine b6 ?_;refine G ?_;refine D [0] pK ?_;refine b6 ?_;refine G ?_;refine D [] jh ?_;exact ak
  | false=>exact main true (by simpa using hk) (fun _=>AB)
 ·exact main false (by simpa using hk) (fun h=>by cases h)
end Go.Xg
namespace Go.Xg
open GV (U)
open Go.RowKit Go.Xw Go.Proofs Tryz
open Go.Xp (Tok Nd T br one levels iv eo eM dL dy pA rH)
open Go.Sp Go.Im
attribute [local irreducible] GW GL GO YG GC GA ba bc
theorem OZ (k a:Int) (s:ah):GF prog 239 [.v (ii k),.v (ii a),.v (sv s),.v (.slice none 0 0)] [] (.loc 0 0) [.box 178 [.v (ii k),.v (ii a),.v (ii 0),.v (sv s),.v (.slice none 0 0),.v (.slice none 0 0)]]:=by
 refine ai func239 ntmps239 ?_;refine GW.wk (Wk.cells 0 rfl (ds:=[.v (ii k),.v (ii a),.v (ii 0),.v (sv s),.v (.slice none 0 0),.v (.slice none 0 0)]) jR) ?_;refine GW.ret ?_;refine pk (n:=1) rfl dH rfl (aX _) rfl rfl ?_;exact ⟨rfl,rfl⟩
structure R1 (f:Nat):Prop where
 block:∀ d p t q x,p.ok->d+3+f<=1099511627776->iS f (.block d) p=some (t,q)->GF prog 218 [.loc 0 0,.v (ii (d:Nat))] [bR p x] (qT t) [bR q x]
 stmt:∀ d p t q x,p.ok->d+3+f<=1099511627776->iS f (.stmt d) p=some (t,q)->GF prog 241 [.loc 0 0,.v (ii (d:Nat))] [bR p x] (qT t) [bR q x]
theorem TD {f:Nat} (C:∀ f',f'<=f->R1 f') (d:Nat) (p:RS) (t:T) (q:RS) (x:PX) (hp:p.ok) (hd:d+3+(f+1)<=1099511627776) (h:iS (f+1) (.block d) p=some (t,q)) :
  GF prog 218 [.loc 0 0,.v (ii (d:Nat))] [bR p x] (qT t) [bR q x]:=by
 rw [iS] at h;have ea:=xd p d x hp;have ht:=so p 0 x hp aM;have EZ:=OZ 14 (tok p 0).at_ []
 by_cases hc:(bT p d).code=0
 case neg =>
  have dK:((bT p d).code==0)=false:=by simpa using hc
  rw [ab hc] at h;rw [dK] at ea;cases h;generalize tok p 0=tk at *;refine ai func218 ntmps218 ?_;refine D [0] ht ?_;refine D [] EZ ?_;refine D [0] ea ?_;refine GW.wk (Wk.cells 1 rfl (ds:=[.v (ii 14),.v (ii tk.at_),.v (ii 0),.v (sv []),.v (.slice none 0 0),.sl 1 []]) jR) ?_;refine GW.wk (Wk.freeze (i:=1) rfl rfl rfl (fi rfl)) ?_;exact ak
 case pos =>
 have dK:((bT p d).code==0)=true:=by simpa using hc
 rw [ae hc] at h;rw [dK,pC hc] at ea;clear hc dK;have mM:=(cw hp [123]).ok hp;have hw:=fB p [123] x hp
 cases he:iB f (d+1) [] (want p [123]) with
 | none=>rw [he] at h;cases h
 | some r =>
  obtain ⟨l,q1⟩:=r;rw [he] at h;cases h;generalize tok p 0=tk at *;refine ai func218 ntmps218 ?_;refine D [0] ht ?_;refine D [] EZ ?_;refine D [0] ea ?_;refine b6 ?_;refine G ?_;refine D [0] hw ?_;refine GW.wk (Wk.L7 (i:=1) (o:=5) 138 1 rfl rfl) ?_;refine GW.loop (fun z:Nat × List T × RS=>z.1) (fun z fr Γ=>∃ n rows,fr=[.loc 0 0,.v (ii (d:Nat)),U,U,U,.loc 1 0,U,U,U,U,U,U,U,U,U,U,U,U,U,U,U,U,U,U,U,U,U,U,U,U,U,U,U,U,U,U,U,U,U,U,U,U,U,U,U]/\Γ=[bR z.2.2 x,.box 178 [.v (ii 14),.v (ii tk.at_),.v (ii 0),.v (sv []),.v (.slice none 0 0),.vec 2 n],.vec 138 1 0 rows]/\rows.length=n/\rows=lh z.2.1/\n+z.1<=f/\z.2.2.ok/\iB z.1 (d+1) z.2.1 z.2.2=some (l,q1)) (f,[],want p [123]) ?_ ?_
  ·exact ⟨_,_,Wk.aK av,0,[],rfl,rfl,rfl,rfl,by simp,mM,he⟩
  ·clear he mM hw ea ht;rintro ⟨g,acc,p⟩ _ _ ⟨n,rows,rfl,rfl,hn,bG,AE,hp,h⟩;simp only at bG AE hp h
   cases g with
   | zero=>simp [iB] at h
   | succ g =>
   rw [iB] at h;have hi:=kL p 0 [125] x hp aM
   by_cases hc:p.code=0
   ·have dK:(p.code==0)=true:=by simpa using hc
    cases hs:is p 0 [125] with
    | true =>
     rw [hs] at hi;rw [ab (fun hh=>by have:=hh.2;rw [hs] at this;cases this)] at h
     obtain ⟨rfl,rfl⟩:acc=l/\p=q1:=by simpa using h
     have hw:=fB p [125] x hp;subst bG;refine G ?_;refine D [0] hi ?_;refine jQ ?_;refine G ?_;refine b6 ?_;refine G ?_;refine D [0] hw ?_;refine GW.wk (Wk.zY (i:=1) (o:=5) rfl rfl rfl rfl hn) ?_;refine GW.wk (Wk.freeze (i:=1) rfl rfl rfl (fi rfl)) ?_;exact ak
    | false =>
     rw [hs] at hi;rw [ae ⟨hc,hs⟩] at h
     cases hb:iS g (.stmt (d+1)) p with
     | none=>rw [hb] at h;cases h
     | some r =>
      obtain ⟨a,p2⟩:=r;rw [hb] at h;simp only at h;have ed:=((FY g).1 _ _ _ _ hp hb).ok hp;have bI:=(C g ag).stmt (d+1) p a p2 x hp ag hb;refine G ?_;refine D [0] hi ?_;refine aJ (aD 0 8 (.a 8 (.a 9 (.a 10 (.q 11 (.q 12 (.a 13 .nil))))))) ?_;refine au ?_;refine az [0] bI ?_;refine eZ ?_;refine au ?_;refine Ee ?_;refine bj ?_;exact ⟨(g,acc++[a],p2),⟨_,_,Wk.aK av,_,_,rfl,rfl,by simp [hn],by rw [wG,bG];rfl,by show n+1+g<=f;omega,ed,h⟩,by simp⟩
   ·have dK:(p.code==0)=false:=by simpa using hc
    rw [ab (fun hh=>hc hh.1)] at h
    obtain ⟨rfl,rfl⟩:acc=l/\p=q1:=by simpa using h
    have hw:=fB p [125] x hp;subst bG;refine dd ?_;refine G ?_;refine b6 ?_;refine G ?_;refine D [0] hw ?_;refine GW.wk (Wk.zY (i:=1) (o:=5) rfl rfl rfl rfl hn) ?_;refine GW.wk (Wk.freeze (i:=1) rfl rfl rfl (fi rfl)) ?_;exact ak
theorem Xa {f:Nat} (C:R1 f) (d:Nat) (p:RS) (t:T) (q:RS) (x:PX) (hp:p.ok) (hd:d+3+(f+1)<=1099511627776) (h:iS (f+1) (.stmt d) p=some (t,q)) :
  GF prog 241 [.loc 0 0,.v (ii (d:Nat))] [bR p x] (qT t) [bR q x]:=by
 rw [iS] at h;have E:=Zk f;have ea:=xd p d x hp;have ht:=so p 0 x hp aM
 by_cases hc:(bT p d).code=0
 case neg =>
  have dK:((bT p d).code==0)=false:=by simpa using hc
  rw [ab hc] at h;rw [dK] at ea;cases h;refine ai func241 ntmps241 ?_;refine D [0] ht ?_;refine D [0] ea ?_;refine D [] IB ?_;exact ak
 case pos =>
 have dK:((bT p d).code==0)=true:=by simpa using hc
 rw [ae hc] at h;rw [dK,pC hc] at ea;clear hc dK;have cX:=hp.2;have E8:=hp.1;have I:=kL p 0 iv x hp aM;have F:=kL p 0 eo x hp aM;have h3:=kL p 0 dL x hp aM;have h4:=kL p 0 dy x hp aM
 cases gk:is p 0 iv with
 | true =>
  rw [gk] at I;rw [ae gk] at h;have ar:p.i < p.l.length:=is_lt (k:=0) gk;have dA:=(dO ar).ok hp
  have hn:=rP p.next x dA
  have yQ:=(iL dA).ok dA;have hw:=fB _ [61] x yQ;have mM:=(cw yQ [61]).ok yQ
  cases he:iE f (.expr (d+1)) (want (bu p.next) [61]) with
  | none=>rw [he] at h;cases h
  | some r =>
   obtain ⟨e,q1⟩:=r;rw [he] at h;cases h;have rB:=((jL f).1 _ _ _ _ mM he).ok mM;have hex:=E.expr (d+1) _ e q1 x mM ag he;have pK:=fB q1 [59] x rB;have jh:=eY 13 (tok p 0).at_ (tok p.next 0).s [e] [[qT e]] (ir _);generalize tok p 0=tk at *
   generalize tok p.next 0=tn at *
   refine ai func241 ntmps241 ?_;refine D [0] ht ?_;refine D [0] ea ?_;refine D [0] I ?_;refine D [0] hn ?_;refine b6 ?_;refine G ?_;refine D [0] hw ?_;refine D [0] hex ?_;refine b6 ?_;refine G ?_;refine D [0] pK ?_;refine b6 ?_;refine G ?_;refine D [] jh ?_;exact ak
 | false =>
 rw [gk] at I;rw [ab (by rw [gk];decide)] at h
 have main:∀ bi bw:Bool,is p 0 eo=bi->is p 0 dL=bw->(bi=true\/bw=true)->GF prog 241 [.loc 0 0,.v (ii (d:Nat))] [bR p x] (qT t) [bR q x]:=by
  intro bi bw wh YT uB
  have nW:is p 0 eo=true\/is p 0 dL=true:=by rw [wh,YT];exact uB
  have ar:p.i < p.l.length:=by rcases nW with hh | hh <;> exact is_lt (k:=0) hh
  rw [ae nW] at h;have dA:=(dO ar).ok hp
  have hw:=fB p.next [40] x dA
  have mM:=(cw dA [40]).ok dA
  cases he:iE f (.expr (d+1)) (want p.next [40]) with
  | none=>rw [he] at h;cases h
  | some r =>
  obtain ⟨c,q1⟩:=r;rw [he] at h;simp only at h;have rB:=((jL f).1 _ _ _ _ mM he).ok mM;have hex:=E.expr (d+1) _ c q1 x mM ag he;have pK:=fB q1 [41] x rB;have V8:=(cw rB [41]).ok rB
  cases hb:iS f (.block (d+1)) (want q1 [41]) with
  | none=>rw [hb] at h;cases h
  | some r =>
  obtain ⟨b,q2⟩:=r;rw [hb] at h;simp only at h;have J4:=((FY f).1 _ _ _ _ V8 hb).ok V8;have aa6:=J4.2;have aa5:=J4.1;have eA:=C.block (d+1) _ b q2 x V8 ag hb;have eR:=kL q2 0 eM x J4 aM;rw [wh] at F;rw [YT] at h3
  cases bi with
  | true =>
   have LI:∀ (cc ee:Bool),(q2.code==0)=cc->is q2 0 eM=ee->(cc=false\/ee=false)->GF prog 241 [.loc 0 0,.v (ii (d:Nat))] [bR p x] (qT t) [bR q x]:=by
    intro cc ee uu x6 DN
    rw [ab (fun hh=>by
     rcases DN with h0 | h0
     ·rw [h0] at uu;have:=hh.2.1;simp [this] at uu
     ·rw [h0] at x6;rw [x6] at hh;exact absurd hh.2.2 aM),ae wh] at h
    cases h;rw [x6] at eR;have jh:=eY 9 (tok p 0).at_ [] [c,b] [[qT c],[qT b]] (ir _);generalize tok p 0=tk at *
    cases cc with
    | true =>
     cases ee with
     | true=>simp at DN
     | false =>
      refine ai func241 ntmps241 ?_;refine D [0] ht ?_;refine D [0] ea ?_;refine D [0] I ?_;refine D [0] F ?_;refine D [0] F ?_;refine b6 ?_;refine G ?_;refine D [0] hw ?_;refine D [0] hex ?_;refine oL ?_;refine G ?_;refine b6 ?_;refine G ?_;refine D [0] pK ?_;refine D [0] eA ?_;refine fG ?_;refine G ?_;refine D [0] eR ?_;refine GL.wk (Wk.ki (t:=108) rfl rfl rfl rfl) ?_;refine cm ?_;refine D [] jh ?_;exact ak
    | false =>
     refine ai func241 ntmps241 ?_;refine D [0] ht ?_;refine D [0] ea ?_;refine D [0] I ?_;refine D [0] F ?_;refine D [0] F ?_;refine b6 ?_;refine G ?_;refine D [0] hw ?_;refine D [0] hex ?_;refine oL ?_;refine G ?_;refine b6 ?_;refine G ?_;refine D [0] pK ?_;refine D [0] eA ?_;refine fG ?_;refine G ?_;refine GL.wk (Wk.ki (t:=108) rfl rfl rfl rfl) ?_;refine cm ?_;refine D [] jh ?_;exact ak
   by_cases kB:q2.code=0
   ·cases x6:is q2 0 eM with
    | true =>
     clear LI;rw [ae ⟨wh,kB,x6⟩] at h;rw [x6] at eR
     have uu:(q2.code==0)=true:=by simpa using kB
     have nN:q2.i < q2.l.length:=is_lt (k:=0) x6;have hqn:=(dO nN).ok J4
     cases fv:iS f (.block (d+1)) q2.next with
     | none=>rw [fv] at h;cases h
     | some r =>
      obtain ⟨b2,q3⟩:=r;rw [fv] at h;cases h;have XQ:=C.block (d+1) _ b2 _ x hqn ag fv;have jh:=eY 9 (tok p 0).at_ [] [c,b,b2] [[qT c],[qT b],[qT b2]] (ir _);generalize tok p 0=tk at *;refine ai func241 ntmps241 ?_;refine D [0] ht ?_;refine D [0] ea ?_;refine D [0] I ?_;refine D [0] F ?_;refine D [0] F ?_;refine b6 ?_;refine G ?_;refine D [0] hw ?_;refine D [0] hex ?_;refine oL ?_;refine G ?_;refine b6 ?_;refine G ?_;refine D [0] pK ?_;refine D [0] eA ?_;refine fG ?_;refine G ?_;refine D [0] eR ?_;refine D [0] XQ ?_;refine fG ?_;refine G ?_;refine GL.wk (Wk.ki (t:=108) rfl rfl rfl rfl) ?_;refine cm ?_;refine D [] jh ?_;exact ak
    | false=>exact LI true false (by simpa using kB) x6 (.inr rfl)
   ·exact LI false _ (by simpa using kB) rfl (.inl rfl)
  | false =>
   have ZT:bw=true:=by simpa using uB
   subst ZT;rw [ab (fun hh=>by have:=hh.1;rw [wh] at this;cases this),ab (by rw [wh];decide)] at h;cases h;have jh:=eY 10 (tok p 0).at_ [] [c,b] [[qT c],[qT b]] (ir _);generalize tok p 0=tk at *;refine ai func241 ntmps241 ?_;refine D [0] ht ?_;refine D [0] ea ?_;refine D [0] I ?_;refine D [0] F ?_;refine D [0] h3 ?_;refine D [0] F ?_;refine b6 ?_;refine G ?_;refine D [0] hw ?_;refine D [0] hex ?_;refine oL ?_;refine G ?_;refine b6 ?_;refine G ?_;refine D [0] pK ?_;refine D [0] eA ?_;refine fG ?_;refine G ?_;refine GL.wk (Wk.ki (t:=108) rfl rfl rfl rfl) ?_;refine cm ?_;refine D [] jh ?_;exact ak
 cases ji:is p 0 eo with
 | true=>exact main true _ ji rfl (.inl rfl)
 | false =>
 cases pJ:is p 0 dL with
 | true=>exact main false true ji pJ (.inr rfl)
 | false =>
 clear main;rw [ji] at F;rw [pJ] at h3;rw [ab (by rw [ji,pJ];decide)] at h
 cases hs4:is p 0 dy with
 | true =>
  rw [hs4] at h4;rw [ae hs4] at h;have ar:p.i < p.l.length:=is_lt (k:=0) hs4;have dA:=(dO ar).ok hp
  cases he:iE f (.expr (d+1)) p.next with
  | none=>rw [he] at h;cases h
  | some r =>
   obtain ⟨e,q1⟩:=r;rw [he] at h;cases h;have rB:=((jL f).1 _ _ _ _ dA he).ok dA;have hex:=E.expr (d+1) _ e q1 x dA ag he;have pK:=fB q1 [59] x rB;have jh:=eY 11 (tok p 0).at_ [] [e] [[qT e]] (ir _);generalize tok p 0=tk at *;refine ai func241 ntmps241 ?_;refine D [0] ht ?_;refine D [0] ea ?_;refine D [0] I ?_;refine D [0] F ?_;refine D [0] h3 ?_;refine D [0] h4 ?_;refine D [0] hex ?_;refine b6 ?_;refine G ?_;refine D [0] pK ?_;refine b6 ?_;refine G ?_;refine D [] jh ?_;exact ak
 | false =>
  rw [hs4] at h4;rw [ab (by rw [hs4];decide)] at h;have Wg:=Ry (f:=f) d p t q x hp ag h;generalize tok p 0=tk at *;refine ai func241 ntmps241 ?_;refine D [0] ht ?_;refine D [0] ea ?_;refine D [0] I ?_;refine D [0] F ?_;refine D [0] h3 ?_;refine D [0] h4 ?_;refine D [0] Wg ?_;exact ak
theorem Zn (f:Nat):R1 f:=by
 induction f using Nat.strongRecOn with
 | _ f ih =>
  cases f with
  | zero=>exact ⟨fun d p t q x _ _ h=>by simp [iS] at h,fun d p t q x _ _ h=>by simp [iS] at h⟩
  | succ f =>
   have C:=ih f (Nat.lt_succ_self f)
   have Cs:∀ f',f'<=f->R1 f':=fun f' h=>ih f' (Nat.lt_succ_of_le h)
   exact ⟨fun d p t q x hp hd h=>TD Cs d p t q x hp hd h,fun d p t q x hp hd h=>Xa C d p t q x hp hd h⟩
end Go.Xg
namespace Go.Xg
open GV (U)
open Go.RowKit Go.Xw Go.Proofs Tryz
open Go.Xp (Tok Nd T aO aC mH eK b9)
attribute [local irreducible] GW GL GO YG GC GA ba bc
def sY (n:Nd):List GV:=[.v (ii n.kind),.v (ii n.at_),.v (ii n.n),.v (sv n.s),ints n.kids]
def D2 (t:T) (x:Value):List GV:=[.v (ii t.n.kind),.v (ii t.n.at_),.v (ii t.n.n),.v (sv t.n.s),.v x]
theorem NC:∀ (N:Nat) (t:T),aO t<=N->∀ (n:Nat) (rows:List (List GV)) (a:Option Addr) (c:Nat),rows.length=n->n+aO t<=1099511627776 ->
  GC prog 170 [.v (.slice a n c),qT t] [.vech 60 5 rows (.slice a n c)] fun g aS=>∃ a c,g=.v (.slice a (n+aO t) c)/\aS=[.vech 60 5 (rows++(mH n t).map sY) (.slice a (n+aO t) c)]:=by
 intro N
 induction N with
 | zero=>intro t h;rw [Go.Xp.eO] at h;omega
 | succ N ih =>
 intro t hN n rows a c hn hb;subst hn;rw [Go.Xp.eO] at hb hN;have eS:=Go.Xp.bZ t.kids;refine ai func170 ntmps170 ?_;refine GL.lP 0 rfl rfl rfl rfl rfl rfl rfl rfl bf oK ?_;intro a c;refine cm ?_;refine G ?_;refine GW.wk (Wk.q6 3 1) ?_
 refine GW.range (lh t.kids).length (fun k fr Γ=>∃ a c a2 c2,fr=[.v (.slice a (rows.length+1+aC (t.kids.take k)) c),qT t,U,U,U,.v (ii (rows.length:Nat)),U,U,U,U,U,U,U,U,U,U,U,U,U,U,.sl 1 (lh t.kids),.v (ii ((lh t.kids).length:Int)),.v (ii (k:Nat)),U,U,U,U,U,U,U,U,U,U,U,U,U,U,U,U,U,U,U,U,U] /\
  Γ=[.vech 60 5 (rows++D2 t (.slice a2 k c2)::(eK (rows.length+1) (t.kids.take k)).map sY) (.slice a (rows.length+1+aC (t.kids.take k)) c),.vech 3 1 ((b9 (rows.length+1) (t.kids.take k)).map fun z=>[.v (ii z)]) (.slice a2 k c2)]) ?_ (by rw [nH];omega) ?_ ?_ ?_
 ·refine ⟨_,_,Wk.aK av,a,c,none,0,rfl,?_⟩;rfl
 ·rintro k _ _ ⟨a,c,a2,c2,rfl,rfl⟩;exact dI
 ·rintro k _ _ ar ⟨a,c,a2,c2,rfl,rfl⟩;rw [nH] at ar;obtain ⟨yX,kD⟩:∃ yX,t.kids[k]?=some yX:=⟨t.kids[k],by simp [ar]⟩;have hr:=C9 kD;have cB:=Go.Xp.vN kD;have hle:=Go.Xp.vM t.kids (k+1)
  have lL:t.kids.take (k+1)=t.kids.take k++[yX]:=by rw [cq,kD];rfl
  have hX:((eK (rows.length+1) (t.kids.take k)).map sY).length=aC (t.kids.take k):=by rw [bS,Go.Xp.zH]
  have yM:((b9 (rows.length+1) (t.kids.take k)).map fun z=>[GV.v (ii z)]).length=k:=by rw [bS,Go.Xp.da,fV];omega
  rw [lL,Go.Xp.LP,Go.Xp.JQ,Go.Xp.nJ];simp only [b9,eK,aC,iy,Nat.add_zero,o0,List.map_cons,List.map_nil,<-gW]
  have EY:=fun (rs:List (List GV)) a c h=>ih yX ag (rows.length+1+aC (t.kids.take k)) rs a c h ag
  generalize (eK (rows.length+1) (t.kids.take k)).map sY=X at *;generalize ((b9 (rows.length+1) (t.kids.take k)).map fun z=>[GV.v (ii z)])=ks at *;generalize aC (t.kids.take k)=s at *;subst yM
  have kE:∀ r:List GV,(rows++r::X).length=rows.length+1+s:=fun r=>by simp;omega
  have bG:(rows++D2 t (.slice a2 ks.length c2)::X)[rows.length]?=some (D2 t (.slice a2 ks.length c2)):=by simp
  have gX:=kE (D2 t (.slice a2 ks.length c2));unfold D2 at bG gX |-;refine G ?_;refine GL.lP 1 rfl rfl rfl rfl rfl rfl rfl rfl bf oK ?_;intro a3 c3;refine cm ?_;refine G ?_;refine Iw ?_;rw [H0];simp only [bH];refine G ?_;refine dm [0] (EY _ _ _ (kE _)) ?_;rintro _ _ ⟨a4,c4,rfl,rfl⟩;refine dG ?_;refine G ?_;refine ⟨rfl,rfl,_,_,Wk.aK av,a4,c4,a3,c3,rfl,?_⟩;rw [iw];rfl
 ·rintro _ _ ⟨a,c,a2,c2,rfl,rfl⟩;rw [nH,cy];rw [Go.Xp.eO,Go.Xp.NA]
  have yM:((b9 (rows.length+1) t.kids).map fun z=>[GV.v (ii z)]).length=t.kids.length:=by rw [bS,Go.Xp.da]
  have sB:ints (b9 (rows.length+1) t.kids)=.sl 1 ((b9 (rows.length+1) t.kids).map fun z=>[GV.v (ii z)]):=rfl;rw [List.map_cons];simp only [sY,D2];rw [sB,show rows.length+(aC t.kids+1)=rows.length+1+aC t.kids by omega];generalize (eK (rows.length+1) t.kids).map sY=X at *;generalize ((b9 (rows.length+1) t.kids).map fun z=>[GV.v (ii z)])=ks at *;generalize aC t.kids=s at *
  have bG:∀ r:List GV,(rows++r::X)[rows.length]?=some r:=fun r=>by simp
  refine be ?_;apply GW.wk
  ·apply Wk.YB (i:=0) (idx:=rows.length) (o:=4) (j:=1)
   ·rfl
   ·exact bG _
   ·rfl
   ·rfl
   ·rfl
  rw [H0];simp only [bH];refine G ?_;refine bV ?_;exact ⟨_,_,rfl,rfl⟩
end Go.Xg
namespace Go.Xg
open GV (U)
open Go.RowKit Go.Xw Go.Proofs Tryz
open Go.Xp (Tok Nd T br one levels iv eo eM dL dy mg nB pA Ar)
open Go.Sp Go.Im
attribute [local irreducible] GW GL GO YG GC GA ba bc
structure HW where
 aT:Option Addr
 cT:Nat
 aG:Option Addr
 cG:Nat
 aA:Option Addr
 cA:Nat
 aF:Option Addr
 cF:Nat
def rU (x:Ar):List GV:=[.v (sv x.name),.v (ii x.size)]
def rh (x:ah × List ah):List GV:=[.v (sv x.1),strs x.2,.v (ii 0)]
def l6 (x:ah):List GV:=[.v (sv x)]
abbrev hx (st:PS) (h:HW):PX:=⟨.slice h.aT st.trees.length h.cT,.slice h.aG st.globals.length h.cG,.slice h.aA st.arrays.length h.cA,.slice h.aF st.fns.length h.cF,.slice none 0 0⟩
abbrev vI (p:RS) (st:PS) (h:HW):List Ob:=[bR p (hx st h),.vech 138 1 (lh st.trees) (.slice h.aT st.trees.length h.cT),.vech 9 1 (st.globals.map l6) (.slice h.aG st.globals.length h.cG),.vech 78 2 (st.arrays.map rU) (.slice h.aA st.arrays.length h.cA),.vech 77 3 (st.fns.map rh) (.slice h.aF st.fns.length h.cF)]
theorem xw {α β:Type} (g:α->β) (l:List α) (x:α):(l++[x]).map g=l.map g++[g x]:=by simp
theorem PN {f:Nat} (p:RS) (st:PS) (h:HW) (q:RS) (ey:PS) (n:Nat) (hp:p.ok) (hn:st.le n) (hb:n+1<=1099511627776) (hs:is p 0 mg=true) (hw:iW f p st=some (q,ey)) :
  GC prog 169 [.loc 0 0] (vI p st h) (fun g aS=>g=.tup []/\∃ h',aS=vI q ey h'):=by
 obtain ⟨E8,cX⟩:=id hp;obtain ⟨Hg,bW,hn3,hn4⟩:=hn;unfold iW at hw;rw [ae hs] at hw;have hi:=kL p 0 mg (hx st h) hp aM;rw [hs] at hi;have lH:=(kj hs).ok hp
 have fy:=rP p.next (hx st h) lH
 have ed:=(iL lH).ok lH;generalize (tok p.next 0).s=s at *
 generalize bu p.next=p2 at *
 have td:=kL p2 0 [91] (hx st h) ed aM
 have aaH:¬ (p2.code=0/\is p2 0 [91]=true)->True:=fun _=>trivial
 cases hc:(p2.code==0) with
 | false =>
  have dK:¬ p2.code=0:=by simpa using hc
  rw [ab (fun hh=>dK hh.1)] at hw;cases hw
  have yJ:(st.globals.map l6).length+1=(st.globals++[s]).length:=by simp
  have qz:st.globals.map l6++[[GV.v (sv s)]]=(st.globals++[s]).map l6:=by simp [l6]
  have hlen:(st.globals.map l6).length+1<=1099511627776:=by simp;omega
  refine ai func169 ntmps169 ?_;refine D [0] hi ?_;refine D [0] fy ?_;refine GL.lP 2 rfl rfl rfl rfl rfl rfl rfl rfl bf oK ?_;intro a c;refine cm ?_;rw [yJ,qz];refine G ?_;refine b6 ?_;refine G ?_;refine D [0] (fB p2 [59] (hx { st with globals:=st.globals++[s] } { h with aG:=a,cG:=c }) ed) ?_;refine cZ ?_;exact ⟨rfl,{ h with aG:=a,cG:=c },rfl⟩
 | true =>
  have dK:p2.code=0:=by simpa using hc
  cases fv:is p2 0 [91] with
  | false =>
   rw [fv] at td;rw [ab (fun hh=>by have:=hh.2;rw [fv] at this;cases this)] at hw;cases hw
   have yJ:(st.globals.map l6).length+1=(st.globals++[s]).length:=by simp
   have qz:st.globals.map l6++[[GV.v (sv s)]]=(st.globals++[s]).map l6:=by simp [l6]
   have hlen:(st.globals.map l6).length+1<=1099511627776:=by simp;omega
   refine ai func169 ntmps169 ?_;refine D [0] hi ?_;refine D [0] fy ?_;refine D [0] td ?_;refine GL.lP 2 rfl rfl rfl rfl rfl rfl rfl rfl bf oK ?_;intro a c;refine cm ?_;rw [yJ,qz];refine G ?_;refine b6 ?_;refine G ?_;refine D [0] (fB p2 [59] (hx { st with globals:=st.globals++[s] } { h with aG:=a,cG:=c }) ed) ?_;refine cZ ?_;exact ⟨rfl,{ h with aG:=a,cG:=c },rfl⟩
  | true =>
   rw [fv] at td;rw [ae ⟨dK,fv⟩] at hw;have AG:=(kj fv).ok ed;have aaZ:=ed.1;have V7:=ed.2;have aa0:=AG.1;have aa1:=AG.2
   have ht:=so p2.next 0 (hx st h) AG aM
   have Hu:=Ab p2.next (hx st h) AG
   have G9:(tok p2.next 0).kind=1->p2.next.next.ok:=fun hk=>(dO (sO (p:=p2.next) (k:=0) (by rw [hk];decide))).ok AG
   generalize tok p2.next 0=tk at *
   by_cases hk:tk.kind=1
   ·rw [ae hk] at hw;cases hw
    have mq:(tk.kind != 1)=false:=by simpa using hk
    have SL:=G9 hk;have aa2:=SL.1
    have Hs:=fB p2.next.next [93] (hx st h) SL
    have hp5:=(cw SL [93]).ok SL
    generalize want p2.next.next [93]=p5 at *
    have yJ:(st.arrays.map rU).length+1=(st.arrays++[(⟨s,tk.n⟩:Ar)]).length:=by simp
    have qz:st.arrays.map rU++[[GV.v (sv s),.v (ii tk.n)]]=(st.arrays++[(⟨s,tk.n⟩:Ar)]).map rU:=by simp [rU]
    have hlen:(st.arrays.map rU).length+1<=1099511627776:=by simp;omega
    refine ai func169 ntmps169 ?_;refine D [0] hi ?_;refine D [0] fy ?_;refine D [0] td ?_;refine D [0] ht ?_;refine b6 ?_;refine G ?_;refine D [0] Hs ?_;refine aJ (aD 0 10 (.a 10 (.a 11 (aD 12 3 (.a 15 .nil))))) ?_;refine au ?_;refine eZ ?_;refine au ?_;refine OA rfl rfl (GL.qL 3 rfl rfl rfl bf rfl rfl (by refine ⟨?_,?_⟩;(· show _+1<=_;omega);(· show (_+1) * _<=_;omega)) ?_);intro a c;refine dE ?_;generalize hX:chunk 1 2 _=X
    obtain rfl:X=[rU ⟨s,tk.n⟩]:=by rw [<-hX];rfl
    clear hX
    try (generalize hX:chunk 1 2 _=X;obtain rfl:X=[rU ⟨s,tk.n⟩]:=by rw [<-hX];rfl)
    rw [show (st.arrays.map rU).length+[rU ⟨s,tk.n⟩].length=(st.arrays++[(⟨s,tk.n⟩:Ar)]).length by simp,<-xw rU st.arrays ⟨s,tk.n⟩];refine bj ?_;refine b6 ?_;refine G ?_;refine D [0] (fB p5 [59] (hx { st with arrays:=st.arrays++[⟨s,tk.n⟩] } { h with aA:=a,cA:=c }) hp5) ?_;refine cZ ?_;exact ⟨rfl,{ h with aA:=a,cA:=c },rfl⟩
   ·rw [ab hk] at hw;cases hw
    have mq:(tk.kind != 1)=true:=by simpa using hk
    refine ai func169 ntmps169 ?_;refine D [0] hi ?_;refine D [0] fy ?_;refine D [0] td ?_;refine D [0] ht ?_;refine D [0] Hu ?_;refine cZ ?_;exact ⟨rfl,h,rfl⟩
theorem Mw {f:Nat} (p:RS) (st:PS) (h:HW) (q:RS) (ey:PS) (hp:p.ok) (hs:is p 0 mg=false) (ji:is p 0 nB=false) (hw:iW f p st=some (q,ey)) :
  GC prog 169 [.loc 0 0] (vI p st h) (fun g aS=>g=.tup []/\∃ h',aS=vI q ey h'):=by
 unfold iW at hw;rw [ab (by rw [hs];decide),ab (by rw [ji];decide)] at hw;cases hw;have hi:=kL p 0 mg (hx st h) hp aM;have td:=kL p 0 nB (hx st h) hp aM;have Hu:=Ab p (hx st h) hp;rw [hs] at hi;rw [ji] at td;refine ai func169 ntmps169 ?_;refine D [0] hi ?_;refine D [0] td ?_;refine D [0] Hu ?_;refine cZ ?_;exact ⟨rfl,h,rfl⟩
abbrev XI (p:RS) (st:PS) (h:HW) (s:ah) (acc:List ah) (a:Option Addr) (c:Nat):List Ob:=vI p st h++[.box 77 [.v (sv s),.v (.slice a acc.length c),.v (ii 0)],.vech 9 1 (acc.map l6) (.slice a acc.length c)]
theorem Mx {f:Nat} (p:RS) (st:PS) (h:HW) (q:RS) (ey:PS) (n:Nat) (hp:p.ok) (hn:st.le n) (hb:n+f+4<=1099511627776) (wu:is p 0 mg=false) (hs:is p 0 nB=true) (hw:iW f p st=some (q,ey)) :
  GC prog 169 [.loc 0 0] (vI p st h) (fun g aS=>g=.tup []/\∃ h',aS=vI q ey h'):=by
 obtain ⟨E8,cX⟩:=id hp;obtain ⟨Hg,bW,hn3,hn4⟩:=hn;unfold iW at hw;rw [ab (by rw [wu];decide),ae hs] at hw;have N5:=kL p 0 mg (hx st h) hp aM;rw [wu] at N5;have hi:=kL p 0 nB (hx st h) hp aM;rw [hs] at hi;have lH:=(kj hs).ok hp
 have fy:=rP p.next (hx st h) lH
 have ed:=(iL lH).ok lH;generalize (tok p.next 0).s=s at *
 generalize bu p.next=p2 at *
 have pK:=fB p2 [40] (hx st h) ed;have AG:=(cw ed [40]).ok ed;generalize want p2 [40]=p3 at *
 cases hm:pM f [] p3 with
 | none=>rw [hm] at hw;cases hw
 | some r =>
 obtain ⟨l,q1⟩:=r;rw [hm] at hw;simp only at hw;refine ai func169 ntmps169 ?_;refine D [0] N5 ?_;refine D [0] hi ?_;refine D [0] fy ?_;refine b6 ?_;refine G ?_;refine D [0] pK ?_;refine GW.wk (Wk.q6 9 1) ?_;refine GW.loop (fun z:Nat × List ah × RS=>z.1) (fun z fr Γ=>∃ a c,fr=[.loc 0 0,U,U,U,.loc 5 0,U,U,U,U,U,U,U,U,U,U,U,U,U,U,U,U,U,U,U,U,U,U,U,U,U,U,U,U,U,U,U,U,U,U,U,U,U,U,U,U,U,U,U,U,U,U,U,U,U,U,U,U,U,U,U,U,U,U,U,U,U,U,U,U,U,U,U,U,U,U,U,U,U,U,U,U,U,U,U,U,U,U,U,U,U,U,U,U,U,U,U,U,U,U,U,U,U,U,U,U,U,U,U,U,U,U,U,U,U,U,U,U,U,U,U,U,U,U,U,U,U,U,U,U,U,U,U,U,U,U,U,U,U,U,U,U,U,U,U,U,U,U,U,U,U,U,U,U]/\Γ=XI z.2.2 st h s z.2.1 a c/\z.2.2.ok/\z.2.1.length+z.1<=f/\pM z.1 z.2.1 z.2.2=some (l,q1)) (f,[],p3) ?_ ?_
 ·exact ⟨_,_,Wk.aK av,none,0,rfl,rfl,AG,by simp,hm⟩
 clear hm AG pK ed fy hi N5 lH;rintro ⟨g,acc,p⟩ _ _ ⟨a,c,rfl,rfl,hp,AE,hm⟩;simp only at hp AE hm
 cases g with
 | zero=>cases hm
 | succ g =>
 rw [pM] at hm;have hi:=kL p 0 [41] (hx st h) hp aM
 by_cases hgo:p.code=0/\is p 0 [41]=false
 ·obtain ⟨hc,pJ⟩:=id hgo;rw [ae hgo] at hm;rw [pJ] at hi
  have dK:(p.code==0)=true:=by simpa using hc
  by_cases h0:acc.length=0
  ·obtain rfl:=gQ h0
   have hd:decide ((0:Int) < (([]:List ah).length:Int))=false:=by decide
   rw [ae (by rfl)] at hm;have fy:=rP p (hx st h) hp;have ed:=(iL hp).ok hp;generalize (tok p 0).s=s2 at *;refine G ?_;refine D [0] hi ?_;refine aJ (aD 0 3 (.a 3 (.a 4 (.a 5 (.q 6 (.a 7 .nil)))))) ?_;refine au ?_;refine az [0] fy ?_;refine eZ ?_;refine au ?_;refine OA rfl rfl (GL.qL 6 (news:=[l6 s2]) rfl rfl rfl bf rfl rfl (by refine ⟨?_,?_⟩;(· show _+1<=_;omega);(· show (_+1) * _<=_;omega)) ?_);intro a2 c2;refine dE ?_;refine bj ?_;exact ⟨(g,[s2],bu p),⟨_,_,Wk.aK av,a2,c2,rfl,rfl,ed,by simp at AE |-;omega,hm⟩,by simp⟩
  ·have hd:decide ((0:Int) < (acc.length:Int))=true:=by simpa using by omega
   rw [ab h0] at hm;have hwc:=fB p [44] (hx st h) hp;have mM:=(cw hp [44]).ok hp;generalize want p [44]=pw at *;have fy:=rP pw (hx st h) mM;have ed:=(iL mM).ok mM;generalize (tok pw 0).s=s2 at *
   have hlen:(acc.map l6).length<=f:=by simp;omega
   refine G ?_;refine D [0] hi ?_;refine b6 ?_;refine G ?_;refine D [0] hwc ?_;refine aJ (aD 0 3 (.a 3 (.a 4 (.a 5 (.q 6 (.a 7 .nil)))))) ?_;refine au ?_;refine az [0] fy ?_;refine eZ ?_;refine au ?_;refine OA rfl rfl (GL.qL 6 (news:=[l6 s2]) rfl rfl rfl bf rfl rfl (by refine ⟨?_,?_⟩;(· show _+1<=_;omega);(· show (_+1) * _<=_;omega)) ?_);intro a2 c2;refine dE ?_
   try rw [show (acc.map l6).length+1=(acc++[s2]).length by simp]
   rw [show (acc.map l6).length+[l6 s2].length=(acc++[s2]).length by simp,<-xw l6 acc s2];refine bj ?_;exact ⟨(g,acc++[s2],bu pw),⟨_,_,Wk.aK av,a2,c2,rfl,rfl,ed,by simp;omega,hm⟩,by simp⟩
 ·rw [ab hgo] at hm
  obtain ⟨rfl,rfl⟩:acc=l/\want p [41]=q1:=by simpa using hm
  clear hm;have SU:=fB p [41] (hx st h) hp;have Y6:=(cw hp [41]).ok hp
  have gX:(lh st.trees).length+1<=1099511627776:=by rw [nH];omega
  have kE:(st.fns.map rh).length+1<=1099511627776:=by simp;omega
  by_cases hc:p.code=0
  ·have dK:(p.code==0)=true:=by simpa using hc
   have pJ:is p 0 [41]=true:=by
    cases h3:is p 0 [41] with
    | true=>rfl
    | false=>exact absurd ⟨hc,h3⟩ hgo
   rw [pJ] at hi
   by_cases hqc:(want p [41]).code=0
   ·have QD:((want p [41]).code==0)=true:=by simpa using hqc
    rw [ae hqc] at hw
    cases dQ:iS f (.block 1) (want p [41]) with
    | none=>rw [dQ] at hw;cases hw
    | some r =>
    obtain ⟨t,qq⟩:=r;rw [dQ] at hw
    obtain ⟨rfl,rfl⟩:qq=q/\_=ey:=by simpa using hw
    have eA:=(Zn f).block 1 _ t qq (hx st h) Y6 ag dQ;clear dQ hqc;generalize want p [41]=pq at *;refine G ?_;refine D [0] hi ?_;refine jQ ?_;refine G ?_;refine b6 ?_;refine G ?_;refine D [0] SU ?_;refine aJ (aD 0 6 (.a 6 (.a 7 (.a 8 (.q 9 (.q 10 (.a 11 .nil))))))) ?_;refine au ?_;refine az [0] eA ?_;refine eZ ?_;refine au ?_;refine OA rfl rfl (GL.qL 1 (news:=[[qT t]]) rfl rfl rfl bf rfl rfl (by refine ⟨?_,?_⟩;(· show _+1<=_;omega);(· show (_+1) * _<=_;omega)) ?_);intro a3 c3;refine dE ?_
    try rw [show (lh st.trees).length+1=(st.trees++[t]).length by simp [nH]]
    rw [show (lh st.trees).length+[[qT t]].length=(st.trees++[t]).length by simp [nH],<-wG st.trees t];refine bj ?_;apply GW.wk
    ·apply Wk.zW (i:=5) (o:=1) (j:=6)
     ·rfl
     ·rfl
     ·rfl
     ·rfl
    simp only [oset,bH];refine aJ (aD 0 7 (.a 7 (.a 8 (aD 9 3 (.a 12 .nil))))) ?_;refine au ?_;refine eZ ?_;refine au ?_;refine OA rfl rfl (GL.qL 4 (news:=[rh (s,acc)]) rfl rfl rfl bf rfl rfl (by refine ⟨?_,?_⟩;(· show _+1<=_;omega);(· show (_+1) * _<=_;omega)) ?_);intro a4 c4;refine dE ?_
    try rw [show (st.fns.map rh).length+1=(st.fns++[(s,acc)]).length by simp]
    rw [show (st.fns.map rh).length+[rh (s,acc)].length=(st.fns++[(s,acc)]).length by simp,<-xw rh st.fns (s,acc)];refine bj ?_;refine cZ ?_;exact ⟨rfl,{ h with aT:=a3,cT:=c3,aF:=a4,cF:=c4 },rfl⟩
   ·have QD:((want p [41]).code==0)=false:=by simpa using hqc
    rw [ab hqc] at hw;cases hw;clear hqc;generalize want p [41]=pq at *;refine G ?_;refine D [0] hi ?_;refine jQ ?_;refine G ?_;refine b6 ?_;refine G ?_;refine D [0] SU ?_;refine cZ ?_;exact ⟨rfl,h,rfl⟩
  ·have dK:(p.code==0)=false:=by simpa using hc
   by_cases hqc:(want p [41]).code=0
   ·have QD:((want p [41]).code==0)=true:=by simpa using hqc
    rw [ae hqc] at hw
    cases dQ:iS f (.block 1) (want p [41]) with
    | none=>rw [dQ] at hw;cases hw
    | some r =>
    obtain ⟨t,qq⟩:=r;rw [dQ] at hw
    obtain ⟨rfl,rfl⟩:qq=q/\_=ey:=by simpa using hw
    have eA:=(Zn f).block 1 _ t qq (hx st h) Y6 ag dQ;clear dQ hqc;generalize want p [41]=pq at *;refine dd ?_;refine G ?_;refine b6 ?_;refine G ?_;refine D [0] SU ?_;refine aJ (aD 0 6 (.a 6 (.a 7 (.a 8 (.q 9 (.q 10 (.a 11 .nil))))))) ?_;refine au ?_;refine az [0] eA ?_;refine eZ ?_;refine au ?_;refine OA rfl rfl (GL.qL 1 (news:=[[qT t]]) rfl rfl rfl bf rfl rfl (by refine ⟨?_,?_⟩;(· show _+1<=_;omega);(· show (_+1) * _<=_;omega)) ?_);intro a3 c3;refine dE ?_
    try rw [show (lh st.trees).length+1=(st.trees++[t]).length by simp [nH]]
    rw [show (lh st.trees).length+[[qT t]].length=(st.trees++[t]).length by simp [nH],<-wG st.trees t];refine bj ?_;apply GW.wk
    ·apply Wk.zW (i:=5) (o:=1) (j:=6)
     ·rfl
     ·rfl
     ·rfl
     ·rfl
    simp only [oset,bH];refine aJ (aD 0 7 (.a 7 (.a 8 (aD 9 3 (.a 12 .nil))))) ?_;refine au ?_;refine eZ ?_;refine au ?_;refine OA rfl rfl (GL.qL 4 (news:=[rh (s,acc)]) rfl rfl rfl bf rfl rfl (by refine ⟨?_,?_⟩;(· show _+1<=_;omega);(· show (_+1) * _<=_;omega)) ?_);intro a4 c4;refine dE ?_
    try rw [show (st.fns.map rh).length+1=(st.fns++[(s,acc)]).length by simp]
    rw [show (st.fns.map rh).length+[rh (s,acc)].length=(st.fns++[(s,acc)]).length by simp,<-xw rh st.fns (s,acc)];refine bj ?_;refine cZ ?_;exact ⟨rfl,{ h with aT:=a3,cT:=c3,aF:=a4,cF:=c4 },rfl⟩
   ·have QD:((want p [41]).code==0)=false:=by simpa using hqc
    rw [ab hqc] at hw;cases hw;clear hqc;generalize want p [41]=pq at *;refine dd ?_;refine G ?_;refine b6 ?_;refine G ?_;refine D [0] SU ?_;refine cZ ?_;exact ⟨rfl,h,rfl⟩
end Go.Xg
namespace Go.Xg
open GV (U)
open Go.RowKit Go.Xw Go.Proofs Tryz
open Go.Xp (Tok Nd T br one levels iv eo eM dL dy mg nB pA Ar aC aO eK mH)
open Go.Sp Go.Im
attribute [local irreducible] GW GL GO YG GC GA ba bc
theorem U1 {f:Nat} (p:RS) (st:PS) (h:HW) (q:RS) (ey:PS) (n:Nat) (hp:p.ok) (hn:st.le n) (hb:n+f+4<=1099511627776) (hw:iW f p st=some (q,ey)) :
  GC prog 169 [.loc 0 0] (vI p st h) (fun g aS=>g=.tup []/\∃ h',aS=vI q ey h'):=by
 cases I:is p 0 mg with
 | true=>exact PN p st h q ey n hp hn ag I hw
 | false =>
  cases F:is p 0 nB with
  | true=>exact Mx p st h q ey n hp hn hb I F hw
  | false=>exact Mw p st h q ey hp I F hw
def n7 (fns:List (ah × List ah)) (trees:List T) (k:Nat):List (List GV):=fns.mapIdx fun i x=>[.v (sv x.1),strs x.2,.v (ii (if i < k then ((aC (trees.take i):Nat):Int) else 0))]
theorem HZ:∀ (rows:List (List GV)) (i j o:Nat) (g:GV),(kh rows i o g)[j]?=if j=i then (rows[j]?).map (fun r=>bH r o g) else rows[j]?
 | [],i,j,o,g=>by simp [kh]
 | r::rs,0,0,o,g=>by simp [kh]
 | r::rs,0,j+1,o,g=>by simp [kh]
 | r::rs,i+1,0,o,g=>by simp [kh]
 | r::rs,i+1,j+1,o,g=>by
  rw [kh,List.getElem?_cons_succ,HZ rs i j o g];simp
theorem UD (fns:List (ah × List ah)) (trees:List T):fns.map rh=n7 fns trees 0:=by
 apply ext_getElem?;intro i;rw [n7,getElem?_mapIdx,aV]
 cases fns[i]? <;> simp [rh]
theorem Pe (fns:List (ah × List ah)) (trees:List T) (k:Nat):kh (n7 fns trees k) k 2 (.v (ii ((aC (trees.take k):Nat):Int)))=n7 fns trees (k+1):=by
 apply ext_getElem?;intro i;rw [HZ,n7,n7,getElem?_mapIdx,getElem?_mapIdx]
 by_cases h:i=k
 ·subst h;rw [ae rfl]
  cases fns[i]? with
  | none=>rfl
  | some x=>simp [bH]
 ·rw [ab h]
  cases fns[i]? with
  | none=>rfl
  | some x =>
   have:(i < k)=(i < k+1):=by simp;omega
   simp [this]
theorem Rm {fns:List (ah × List ah)} {trees:List T} {k:Nat} (j:Nat) (h:k < fns.length):∃ x,(n7 fns trees j)[k]?=some [.v (sv x.1),strs x.2,.v (ii (if k < j then ((aC (trees.take k):Nat):Int) else 0))]/\fns[k]?=some x:=by
 refine ⟨fns[k],?_,by simp [h]⟩;rw [n7,getElem?_mapIdx];simp [h]
def Kx (q:RS) (st:PS):GV :=
 if q.code=0 then
  if aC st.trees > 800 then .tup [.agg [.sl 1 [],.sl 2 [],.sl 3 [],.sl 5 []],.v (ii 10),.v (ii 0)]
  else .tup [.agg [.sl 1 (st.globals.map l6),.sl 2 (st.arrays.map rU),.sl 3 (n7 st.fns st.trees st.trees.length),.sl 5 ((eK 0 st.trees).map sY)],.v (ii 0),.v (ii 0)]
 else .tup [.agg [.sl 1 [],.sl 2 [],.sl 3 [],.sl 5 []],.v (ii q.code),.v (ii q.at_)]
theorem Ja {abg f:Nat} (ts:List Tok) (e:Int) (q:RS) (st:PS) (hl:ts.length<=1099511627776) (hb:abg+f+4<=1099511627776) (hz:q.code=0->aC st.trees<=1099511627776) (h:nY abg f ⟨ts,0,e,0,0⟩ .empty=some (q,st)) :
  GF prog 122 [jr ts,.v (ii e)] [] (Kx q st) []:=by
 unfold Kx;refine ai func122 ntmps122 ?_;refine GW.wk (Wk.q6 138 1) ?_;refine GW.wk (Wk.q6 9 1) ?_;refine GW.wk (Wk.q6 78 2) ?_;refine GW.wk (Wk.q6 77 3) ?_;refine GW.loop (fun z:Nat × RS × PS=>z.1) (fun z fr Γ=>∃ h n,fr=[jr ts,.v (ii e),U,U,.loc 0 0,.v (ii 0),.v (ii 0),.loc 1 0,U,U,U,U,U,U,U,U,U,U,U,U,U,U,U,U,U,U,U,U,U,U,U,U,U,U,U,U,U,U,U,U,U,U,U,U,U,U,U,U,U,U,U,U,U,U,U,U,U,U,U,U,U,U,U,U,U,U,U,U,U,U,U,U,U,U,U,U,U,U,U]/\Γ=.box 34 [.v (.slice none 0 0),.v (.slice none 0 0),.v (.slice none 0 0),.v (.slice none 0 0)]::vI z.2.1 z.2.2 h/\z.2.1.l=ts/\z.2.1.ok/\z.2.2.le n/\n+z.1<=abg/\nY z.1 f z.2.1 z.2.2=some (q,st)) (abg,⟨ts,0,e,0,0⟩,.empty) ?_ ?_
 ·exact ⟨_,_,Wk.aK av,⟨none,0,none,0,none,0,none,0⟩,0,rfl,rfl,rfl,⟨aX _,hl⟩,⟨aH _,aH _,aH _,rfl⟩,by simp,h⟩
 clear h;rintro ⟨g,p,s⟩ _ _ ⟨hd,n,rfl,rfl,cX,hp,hn,AE,h⟩;simp only at cX hp hn AE h
 cases g with
 | zero=>cases h
 | succ g =>
 rw [nY] at h
 by_cases hgo:p.code=0/\p.i < p.l.length
 ·rw [ae hgo] at h
  have dK:(p.code==0)=true:=by simpa using hgo.1
  have ar:decide ((p.i:Int) < ((ts.map dv).length:Int))=true:=by
   have:=hgo.2;rw [cX] at this;simpa using this
  cases hw:iW f p s with
  | none=>rw [hw] at h;cases h
  | some r =>
   obtain ⟨p2,s2⟩:=r;rw [hw] at h;simp only at h;have lM:=X3 hp hw;refine G ?_;refine dm [1,2,3,4,5] (U1 p s hd p2 s2 n hp hn ag hw) ?_;rintro _ _ ⟨rfl,fw,rfl⟩;refine dG ?_;refine G ?_;exact ⟨(g,p2,s2),⟨_,_,Wk.aK av,fw,n+1,rfl,rfl,by rw [lM.1,cX],lM.ok hp,X1 hw hn,by show n+1+g<=abg;omega,h⟩,by simp⟩
 ·rw [ab hgo] at h
  obtain ⟨rfl,rfl⟩:p=q/\s=st:=by simpa using h
  clear h
  have hex:∀ b1 b2:Bool,(p.code==0)=b1->decide ((p.i:Int) < ((ts.map dv).length:Int))=b2->b1=true->b2=false:=fun b1 b2 I F h3=>by
   subst h3
   cases b2 with
   | false=>rfl
   | true=>exact absurd ⟨by simpa using I,by rw [cX];simpa using F⟩ hgo
  by_cases hc:p.code=0
  ·rw [ae hc];have hz:=hz hc
   have dK:(p.code==0)=true:=by simpa using hc
   have kB:(p.code != 0)=false:=by simpa using hc
   have ar:=hex _ _ dK rfl rfl;have nN:=hn.trees;have hlf:=hn.fns;have uC:=nH s.trees;have ow:=Go.Xp.bZ s.trees;refine dd ?_;refine G ?_;refine GW.wk (by apply Wk.pZ (t:=52) (i:=2) <;> rfl) ?_;simp only [oset,bH];refine G ?_;refine GW.wk (Wk.q6 60 5) ?_;rw [UD s.fns s.trees]
   refine GW.range s.trees.length (fun k fr Γ=>∃ aN cN,fr=[U,U,U,U,.loc 0 0,.v (ii 0),.v (ii 0),U,.loc 6 0,U,U,U,U,U,U,U,U,U,U,U,U,U,U,U,U,U,U,U,U,U,U,U,U,U,U,U,U,U,U,U,U,U,U,U,U,U,U,U,U,U,U,U,.sl 1 (lh s.trees),.v (ii (s.trees.length:Int)),.v (ii (k:Nat)),U,U,U,U,U,U,U,U,U,U,U,U,U,U,U,U,U,U,U,U,U,U,U,U]/\Γ=[.box 34 [.v (.slice none 0 0),.v (.slice none 0 0),.v (.slice none 0 0),.v (.slice none 0 0)],bR p (hx s hd),.vec 138 1 (lh s.trees).length (lh s.trees),.vech 9 1 (s.globals.map l6) (.slice hd.aG s.globals.length hd.cG),.vech 78 2 (s.arrays.map rU) (.slice hd.aA s.arrays.length hd.cA),.vech 77 3 (n7 s.fns s.trees k) (.slice hd.aF s.fns.length hd.cF),
    .box 34 [.v (.slice hd.aG s.globals.length hd.cG),.v (.slice hd.aA s.arrays.length hd.cA),.v (.slice hd.aF s.fns.length hd.cF),.v (.slice aN (aC (s.trees.take k)) cN)],.vech 60 5 ((eK 0 (s.trees.take k)).map sY) (.slice aN (aC (s.trees.take k)) cN)]) ?_ ag ?_ ?_ ?_
   ·exact ⟨_,_,Wk.aK av,none,0,rfl,rfl⟩
   ·rintro k _ _ ⟨aN,cN,rfl,rfl⟩;exact dI
   ·rintro k _ _ ar ⟨aN,cN,rfl,rfl⟩;obtain ⟨t,ht⟩:∃ t,s.trees[k]?=some t:=⟨s.trees[k],by simp [ar]⟩;have hr:=C9 ht;have cB:=Go.Xp.vN ht;have hle:=Go.Xp.vM s.trees (k+1)
    have lL:s.trees.take (k+1)=s.trees.take k++[t]:=by rw [cq,ht];rfl
    obtain ⟨x,pf,J7⟩:=Rm (fns:=s.fns) (trees:=s.trees) (k:=k) k ag;rw [ab (Nat.lt_irrefl k)] at pf;have Ho:k < (n7 s.fns s.trees k).length:=(bh pf).1
    have hX:((eK 0 (s.trees.take k)).map sY).length=aC (s.trees.take k):=by rw [bS,Go.Xp.zH]
    have lE:=NC (aO t) t (aH _) (aC (s.trees.take k)) _ aN cN hX ag;rw [<-Pe s.fns s.trees k,lL,Go.Xp.JQ,Go.Xp.nJ];simp only [eK,aC,iy,Nat.add_zero,fk,o0];generalize (eK 0 (s.trees.take k)).map sY=X at *;generalize aC (s.trees.take k)=z at *;generalize n7 s.fns s.trees k=R at *;refine G ?_;refine Iw ?_;refine G ?_;refine dm [7] lE ?_;rintro _ _ ⟨a5,c5,rfl,rfl⟩;refine dG ?_;refine G ?_;exact ⟨rfl,rfl,_,_,Wk.aK av,a5,c5,rfl,rfl⟩
   ·rintro _ _ ⟨aN,cN,rfl,rfl⟩;rw [cy]
    have hX:((eK 0 s.trees).map sY).length=aC s.trees:=by rw [bS,Go.Xp.zH]
    by_cases h8:aC s.trees > 800
    ·rw [ae h8]
     have h8':decide ((800:Int) < (aC s.trees:Int))=true:=by simpa using by omega
     generalize aC s.trees=z at *;refine G ?_;refine Di ?_;exact ⟨_,jR,rfl,rfl⟩
    ·rw [ab h8]
     have h8':decide ((800:Int) < (((eK 0 s.trees).map sY).length:Int))=false:=by rw [hX];simpa using by omega
     refine be ?_;refine GW.wk (by apply Wk.zW (i:=6) (o:=0) (j:=3) <;> rfl) ?_;simp only [oset,bH];refine GW.wk (by apply Wk.zW (i:=6) (o:=1) (j:=4) <;> rfl) ?_;simp only [oset,bH];refine GW.wk (by apply Wk.zW (i:=6) (o:=2) (j:=5) <;> rfl) ?_;simp only [oset,bH];refine GW.wk (by apply Wk.zW (i:=6) (o:=3) (j:=7) <;> rfl) ?_;simp only [oset,bH];refine G ?_;refine mP ?_;exact ⟨rfl,rfl⟩
  ·rw [ab hc]
   have dK:(p.code==0)=false:=by simpa using hc
   have kB:(p.code != 0)=true:=by simpa using hc
   refine dd ?_;refine G ?_;refine aJ (aD 0 9 (.a 9 (.q 10 (.q 11 .nil)))) ?_;refine bj ?_;refine Di ?_;exact ⟨_,jR,rfl,rfl⟩
end Go.Xg
namespace Go.Xg
open GV (U)
open Go.RowKit Go.Xw Go.Proofs Tryz
open Go.Xp (Tok Nd T)
open Go.Sp (small eD et bF fO fc dU)
open Go.Im (my kK cW iu gP kA kO rl lp nQ qV)
attribute [local irreducible] GW GL GO YG GC GA ba bc
theorem zD (c:UInt8):GF prog 207 [EB c] [] (.v (.bool (eD c))) []:=by
 unfold eD;refine dT func207 ntmps207 ?_
 cases h:decide ((48:Int)<=(c.toNat:Int))
 all_goals
  exact ax
theorem BS (c:UInt8):GF prog 209 [EB c] [] (.v (.bool (small c))) []:=by
 unfold small;refine dT func209 ntmps209 ?_
 cases h:decide ((97:Int)<=(c.toNat:Int))
 all_goals
  exact ax
theorem L6 (c:UInt8):GF prog 210 [EB c] [] (.v (.bool (et c))) []:=by
 unfold et;have hs:=BS c;have hd:=zD c;generalize small c=b1 at *;generalize eD c=b2 at *;refine ai func210 ntmps210 ?_;refine lu [] hs ?_
 cases b1 with
 | true =>
  exact ax
 | false =>
  cases I:decide ((65:Int)<=(c.toNat:Int)) with
  | true =>
   cases F:decide ((c.toNat:Int)<=90) with
   | true =>
    exact ax
   | false =>
    refine G ?_;refine lu [] hd ?_
    cases b2 with
    | true =>
     exact ax
    | false =>
     exact ax
  | false =>
   refine G ?_;refine lu [] hd ?_
   cases b2 with
   | true =>
    exact ax
   | false =>
    exact ax
theorem Te (test:FuncId) [hf:aI prog test] (p:UInt8->Bool) (ht:∀ c,GF prog test [EB c] [] (.v (.bool (p c))) []) (s:ah) (a:Nat) (hs:s.length<=1099511627776) (ha:a<=s.length) :
  GF prog 208 [.v (sv s),.v (ii (a:Nat)),.v (.func (.func test) #[] #[])] [] (.v (ii (Go.Sp.run s p (s.length+1) a:Nat))) []:=by
 generalize hR:Go.Sp.run s p (s.length+1) a=R;refine ai func208 ntmps208 ?_;refine GW.loop (fun x:Nat × Nat=>x.1) (fun x fr Γ=>fr=[.v (sv s),.v (ii (x.2:Nat)),.v (.func (.func test) #[] #[]),U,U,U,U,U,U,U,U,U,U,U,U,U,U,U,U,U,U]/\Γ=[]/\x.2<=s.length/\s.length < x.1+x.2/\Go.Sp.run s p x.1 x.2=R) (s.length+1,a) ?_ ?_
 ·exact ⟨_,_,Wk.aK av,rfl,rfl,ha,by simp only;omega,hR⟩
 ·rintro ⟨f,a⟩ _ _ ⟨rfl,rfl,ha,hf2,h⟩;simp only at ha hf2 h
  cases f with
  | zero=>omega
  | succ f =>
  rw [Go.Sp.run] at h
  cases hc:s[a]? with
  | none =>
   rw [hc] at h;simp only at h;subst h;have ko:s.length<=a:=py hc
   have hd:decide ((a:Int) < (s.length:Int))=false:=by simpa using ko
   refine dd ?_;exact ax
  | some c =>
   rw [hc] at h;simp only at h;have ar:a < s.length:=(bh hc).1
   have hd:decide ((a:Int) < (s.length:Int))=true:=by simpa using ar
   have nw:=ht c
   cases hdc:p c with
   | false =>
    rw [hdc] at nw;rw [ab (by rw [hdc];simp)] at h;subst h;refine G ?_;refine ju [] nw ?_;refine dd ?_;exact ax
   | true =>
    rw [hdc] at nw;rw [ae hdc] at h;refine G ?_;refine ju [] nw ?_;refine G ?_;exact ⟨(f,a+1),⟨_,_,Wk.aK av,rfl,rfl,ar,by simp only;omega,h⟩,by simp⟩
theorem Pm:Go.Lib.asciiSpaceTab=wO:=by decide
theorem Nx:Go.Lib.fields [105,110,116,32,118,97,114,32,102,117,110,99,32,105,102,32,101,108,115,101,32,119,104,105,108,101,32,114,101,116,117,114,110,32,124,124,32,38,38,32,61,61,32,33,61,32,60,61,32,62,61,32,60,60,32,62,62,32,40,32,41,32,123,32,125,32,91,32,93,32,44,32,59,32,61,32,60,32,62,32,43,32,45,32,42,32,47,32,37,32,38,32,124,32,94,32,33,32,126]=my:=by decide +kernel
theorem nm.BW {P:Program} {f:FuncId} {vs:List Value} {w:World} {R:Value->World->Prop} (h:Calls P f vs.toArray w fun e w'=>∃ v,e=.returned v/\R v w'):nm P f vs w R:=h
theorem P0:GF prog 252 [.v (sv [105,110,116,32,118,97,114,32,102,117,110,99,32,105,102,32,101,108,115,101,32,119,104,105,108,101,32,114,101,116,117,114,110,32,124,124,32,38,38,32,61,61,32,33,61,32,60,61,32,62,61,32,60,60,32,62,62,32,40,32,41,32,123,32,125,32,91,32,93,32,44,32,59,32,61,32,60,32,62,32,43,32,45,32,42,32,47,32,37,32,38,32,124,32,94,32,33,32,126])] [] (strs my) []:=by
 have:=GF.aaw (P:=prog) (f:=252) (vs:=[sv [105,110,116,32,118,97,114,32,102,117,110,99,32,105,102,32,101,108,115,101,32,119,104,105,108,101,32,114,101,116,117,114,110,32,124,124,32,38,38,32,61,61,32,33,61,32,60,61,32,62,61,32,60,60,32,62,62,32,40,32,41,32,123,32,125,32,91,32,93,32,44,32,59,32,61,32,60,32,62,32,43,32,45,32,42,32,47,32,37,32,38,32,124,32,94,32,33,32,126]]) (us:=my.map sv) (E:=9) fun K β w ht hf=>?_
 ·rw [List.map_map] at this;exact this
 ·obtain ⟨E,z,mc⟩:=uc.all ht hf ht.spc (zs:=wO.map fun z=>Value.int .u8 z) aM (fun m o x hx=>by
   rw [aV] at hx;unfold yg;rw [ab aM,ab aM,ae rfl]
   cases hs:wO[o]? with
   | none=>rw [hs] at hx;cases hx
   | some y=>rw [hs] at hx;cases hx;rfl)
  have BI:Go.Lib.TabIs prog w "strings.asciiSpace" .u8 Go.Lib.asciiSpaceTab:=by
   unfold Go.Lib.TabIs World.var?;rw [show prog.globalNamed "strings.asciiSpace" = some 2 by kernel_rfl,Pm];simp only [Option.bind_some,mc]
  have h:=strings_Fields_laid ⟨[105,110,116,32,118,97,114,32,102,117,110,99,32,105,102,32,101,108,115,101,32,119,104,105,108,101,32,114,101,116,117,114,110,32,124,124,32,38,38,32,61,61,32,33,61,32,60,61,32,62,61,32,60,60,32,62,62,32,40,32,41,32,123,32,125,32,91,32,93,32,44,32,59,32,61,32,60,32,62,32,43,32,45,32,42,32,47,32,37,32,38,32,124,32,94,32,33,32,126].toArray⟩ w aM (fun j b hb=>by
   have:∀ b∈([105,110,116,32,118,97,114,32,102,117,110,99,32,105,102,32,101,108,115,101,32,119,104,105,108,101,32,114,101,116,117,114,110,32,124,124,32,38,38,32,61,61,32,33,61,32,60,61,32,62,61,32,60,60,32,62,62,32,40,32,41,32,123,32,125,32,91,32,93,32,44,32,59,32,61,32,60,32,62,32,43,32,45,32,42,32,47,32,37,32,38,32,124,32,94,32,33,32,126]:List UInt8),b.toNat < 128:=by decide
   exact this b (bm hb)) BI
  refine nm.BW (Calls.mono h ?_);rintro e w' ⟨I,F⟩;rw [show ((⟨[105,110,116,32,118,97,114,32,102,117,110,99,32,105,102,32,101,108,115,101,32,119,104,105,108,101,32,114,101,116,117,114,110,32,124,124,32,38,38,32,61,61,32,33,61,32,60,61,32,62,61,32,60,60,32,62,62,32,40,32,41,32,123,32,125,32,91,32,93,32,44,32,59,32,61,32,60,32,62,32,43,32,45,32,42,32,47,32,37,32,38,32,124,32,94,32,33,32,126].toArray⟩:ByteArray).data.toList)=[105,110,116,32,118,97,114,32,102,117,110,99,32,105,102,32,101,108,115,101,32,119,104,105,108,101,32,114,101,116,117,114,110,32,124,124,32,38,38,32,61,61,32,33,61,32,60,61,32,62,61,32,60,60,32,62,62,32,40,32,41,32,123,32,125,32,91,32,93,32,44,32,59,32,61,32,60,32,62,32,43,32,45,32,42,32,47,32,37,32,38,32,124,32,94,32,33,32,126] from rfl,Nx] at I F;exact ⟨_,I,by rw [bS],F⟩
theorem UI:GF prog 237 [] [] (strs my) []:=by
 have h:=P0;generalize my=l at *;refine ai func237 ntmps237 ?_;refine D [] h ?_;exact ak
theorem BN (s:ah):GF prog 211 [.v (sv s)] [] (.v (.bool (kK s))) []:=by
 have h:=UI;have hc:=lx my s aM;unfold kK;generalize my=l at *;refine ai func211 ntmps211 ?_;refine D [] h ?_;refine D [] hc ?_;exact ak
theorem Ru (s:ah) (a:Nat) (c:UInt8) (hs:s.length<=1099511627776) (hc:s[a]?=some c):GF prog 212 [.v (sv s),.v (ii (a:Nat))] [] (.v (sv (gP s a))) []:=by
 have ar:a < s.length:=(bh hc).1;have jK:=BS c;refine ai func212 ntmps212 ?_;refine GW.loop (fun x:Nat=>x) (fun x fr Γ=>fr=[.v (sv s),.v (ii (a:Nat)),U,U,U,.v (ii (x:Nat)),U,U,U,U,U,U,U,U,U,U,U,U,U,U,U,U,U,U,U,U,U,U,U,U,U,U,U,U,U,U,U,U]/\Γ=[]/\x<=2/\∀ j,x < j->j<=2->iu s a j=false) 2 ?_ ?_
 ·exact ⟨_,_,Wk.aK av,rfl,rfl,aH _,fun j I F=>by omega⟩
 ·rintro x _ _ ⟨rfl,rfl,hx,bX⟩
  have sk:∀ k,x=k+1->iu s a x=false->∀ j,k < j->j<=2->iu s a j=false:=fun k hk ht j I F=>by
   by_cases hj:j=x
   ·rw [hj];exact ht
   ·exact bX j ag F
  have Pz:∀ k,iu s a k=(decide (a+k<=s.length)&&!(small c)&&kK (cW s a (a+k))):=fun k=>by unfold iu;rw [hc]
  match x,hx,bX,sk with
  | 0,_,bX,_ =>
   have e:gP s a=[]:=by unfold gP;rw [bX 2 ag ag,bX 1 ag ag];rfl
   rw [e];refine dd ?_;exact ax
  | 1,_,bX,sk =>
   have hle:decide (((a+1:Nat):Int)<=(s.length:Int))=true:=by simpa using by omega
   have hb:a<=a+1/\a+1<=s.length:=by omega
   have ht:=Pz 1;rw [show decide (a+1<=s.length)=true from decide_eq_true ag] at ht
   cases hsc:small c with
   | true =>
    rw [hsc] at jK ht;refine G ?_;refine D [] jK ?_;exact ⟨0,⟨_,_,Wk.aK av,rfl,rfl,by omega,sk 0 rfl ht⟩,by omega⟩
   | false =>
    rw [hsc] at jK ht;have ek:=BN (cW s a (a+1))
    cases hg:kK (cW s a (a+1)) with
    | false =>
     rw [hg] at ek ht;refine G ?_;refine D [] jK ?_;refine D [] ek ?_;exact ⟨0,⟨_,_,Wk.aK av,rfl,rfl,by omega,sk 0 rfl ht⟩,by omega⟩
    | true =>
     rw [hg] at ek ht
     have e:gP s a=cW s a (a+1):=by unfold gP;rw [bX 2 ag ag,ht];rfl
     rw [e];refine G ?_;refine D [] jK ?_;refine D [] ek ?_;exact ak
  | 2,_,bX,sk =>
   have ht:=Pz 2
   by_cases kE:a+2<=s.length
   ·have hle:decide (((a+2:Nat):Int)<=(s.length:Int))=true:=by simpa using by omega
    have hb:a<=a+2/\a+2<=s.length:=by omega
    rw [show decide (a+2<=s.length)=true by simpa using kE] at ht
    cases hsc:small c with
    | true =>
     rw [hsc] at jK ht;refine G ?_;refine D [] jK ?_;exact ⟨1,⟨_,_,Wk.aK av,rfl,rfl,by omega,sk 1 rfl ht⟩,by omega⟩
    | false =>
     rw [hsc] at jK ht;have ek:=BN (cW s a (a+2))
     cases hg:kK (cW s a (a+2)) with
     | false =>
      rw [hg] at ek ht;refine G ?_;refine D [] jK ?_;refine D [] ek ?_;exact ⟨1,⟨_,_,Wk.aK av,rfl,rfl,by omega,sk 1 rfl ht⟩,by omega⟩
     | true =>
      rw [hg] at ek ht
      have e:gP s a=cW s a (a+2):=by unfold gP;rw [ht];rfl
      rw [e];refine G ?_;refine D [] jK ?_;refine D [] ek ?_;exact ak
   ·have hle:decide (((a+2:Nat):Int)<=(s.length:Int))=false:=by simpa using by omega
    rw [show decide (a+2<=s.length)=false by simpa using kE] at ht;refine G ?_;exact ⟨1,⟨_,_,Wk.aK av,rfl,rfl,by omega,sk 1 rfl ht⟩,by omega⟩
  | n+3,hx,_,_=>omega
def L9 (n:Int) (e:Nat) (a:Nat):GV:=if n > 2147483647 then .tup [.agg (dv rl),.v (ii (a:Nat)),.v (ii 3)] else .tup [.agg (dv ⟨1,n,[],a⟩),.v (ii (e:Nat)),.v (ii 0)]
theorem Px (s:ah) (a:Nat) (c:UInt8) (hs:s.length<=1099511627776) (hc:s[a]?=some c) (hd:eD c=true) :
  GF prog 168 [.v (sv s),.v (ii (a:Nat))] [] (L9 (kO (cW s a (kA s a)) 0) (kA s a) a) []:=by
 have ar:a < s.length:=(bh hc).1;have nw:=zD c;rw [hd] at nw;have nO:=Te 207 eD zD s a hs ag;obtain ⟨e1,e2,e3⟩:=Go.Sp.qD s eD (s.length+1) a ag ag;have aY:=Go.Im.D5 s eD (s.length+1) a ag;unfold kA;generalize Go.Sp.run s eD (s.length+1) a=e at *;clear e1;generalize hR:kO (cW s a e) 0=R;refine ai func168 ntmps168 ?_;refine D [] nw ?_;refine D [] nO ?_;refine GW.loop (fun x:Nat × Int=>e - x.1) (fun x fr Γ=>fr=[.v (sv s),.v (ii (a:Nat)),U,U,.loc 0 0,.v (ii 0),.v (ii 0),U,.v (ii (e:Nat)),.v (ii x.2),.v (ii (x.1:Nat)),U,U,U,U,U,U,U,U,U,U,U,U,U,U,U,U,U,U,U,U,U,U,U,U,U,U,U,U,U,U,U,U,U,U,U,U,U,U,U,U,U,U,U,U,U,U,U,U,U,U,U,U,U,U,U,U,U,U,U,U,U,U,U,U,U,U,U,U,U,U]/\Γ=[.box 166 (dv rl)]/\a<=x.1/\x.1<=e/\kO (cW s x.1 e) x.2=R/\0<=x.2/\x.2<=21474836480) (a,0) ?_ ?_
 ·exact ⟨_,_,Wk.aK av,rfl,rfl,aH _,e2,hR,by simp,by simp⟩
 ·rintro ⟨i,n⟩ _ _ ⟨rfl,rfl,hi,hie,h,EZ,Hg⟩;simp only at hi hie h EZ Hg
  have fin:R=n->True:=fun _=>trivial
  by_cases nN:i < e
  ·have N1:decide ((i:Int) < (e:Int))=true:=by simpa using nN
   by_cases hn:n<=2147483647
   ·have CH:decide (n<=2147483647)=true:=by simpa using hn
    have qR:i < s.length:=by omega
    obtain ⟨d,fw⟩:∃ d,s[i]?=some d:=⟨s[i],by simp [qR]⟩
    have gO:eD d=true:=by
     have:d∈cW s a e:=by
      unfold cW;rw [List.mem_iff_getElem?];exact ⟨i - a,by rw [List.getElem?_drop,List.getElem?_take,show a+(i - a)=i by omega,ae nN];exact fw⟩
     exact aY d this
    have yR:(48:Int)<=(d.toNat:Int)/\(d.toNat:Int)<=57:=by
     simp only [eD,aE,decide_eq_true_eq] at gO;exact gO
    rw [Go.Im.qu fw nN e3,kO,ae hn] at h;refine G ?_;exact ⟨(i+1,10 * n+((d.toNat:Int) - 48)),⟨_,_,Wk.aK av,rfl,rfl,by simp only;omega,nN,h,by simp only;omega,by simp only;omega⟩,by simp only;omega⟩
   ·have CH:decide (n<=2147483647)=false:=by simpa using hn
    have jy:R=n:=by
     rw [<-h]
     cases hw:cW s i e with
     | nil=>rw [kO]
     | cons d r=>rw [kO,ab hn]
    rw [jy];clear h jy hR fin
    have bW:decide (2147483647 < n)=true:=by simpa using by omega
    unfold L9;rw [ae ag];refine dd ?_;refine G ?_;refine mP ?_;exact ⟨rfl,rfl⟩
  ·have N1:decide ((i:Int) < (e:Int))=false:=by simpa using by omega
   have jy:R=n:=by
    rw [<-h];have:cW s i e=[]:=gQ (by rw [Go.Im.lV e3];omega);rw [this,kO]
   rw [jy];clear h jy hR fin;unfold L9
   by_cases hn:n > 2147483647
   ·have bW:decide (2147483647 < n)=true:=by simpa using hn
    rw [ae hn];refine dd ?_;refine G ?_;refine mP ?_;exact ⟨rfl,rfl⟩
   ·have bW:decide (2147483647 < n)=false:=by simpa using hn
    rw [ab hn];refine dd ?_;refine G ?_;refine mP ?_;exact ⟨rfl,rfl⟩
theorem U0 (s:ah) (a:Nat) (c:UInt8) (hs:s.length<=1099511627776) (hc:s[a]?=some c) :
  GF prog 168 [.v (sv s),.v (ii (a:Nat))] [] (.tup [.agg (dv (lp s a c).1),.v (ii ((lp s a c).2.1:Nat)),.v (ii (lp s a c).2.2)]) []:=by
 have ar:a < s.length:=(bh hc).1;have nw:=zD c;have jK:=BS c
 by_cases hd:eD c=true
 ·have h:=Px s a c hs hc hd;unfold L9 at h;unfold lp;rw [ae hd];split at h
  ·rename_i hn;rw [ae hn];exact h
  ·rename_i hn;rw [ab hn];exact h
 ·have N0:eD c=false:=by simpa using hd
  unfold lp;rw [ab hd];rw [N0] at nw
  by_cases hsc:small c=true
  ·rw [ae hsc];rw [hsc] at jK;have nO:=Te 210 et L6 s a hs ag;obtain ⟨e1,e2,e3⟩:=Go.Sp.qD s et (s.length+1) a ag ag;have hw:fO s a=(s.take (fc s a)).drop a:=rfl;have ek:=BN (fO s a);unfold fc at hw |-;rw [hw] at ek |-;generalize Go.Sp.run s et (s.length+1) a=e at *;have hb:a<=e/\e<=s.length:=⟨e2,e3⟩
   cases hg:kK ((s.take e).drop a) with
   | true =>
    rw [hg] at ek;refine ai func168 ntmps168 ?_;refine D [] nw ?_;refine D [] jK ?_;refine D [] nO ?_;refine D [] ek ?_;refine mP ?_;exact ⟨rfl,rfl⟩
   | false =>
    rw [hg] at ek;refine ai func168 ntmps168 ?_;refine D [] nw ?_;refine D [] jK ?_;refine D [] nO ?_;refine D [] ek ?_;refine mP ?_;exact ⟨rfl,rfl⟩
  ·have aaj:small c=false:=by simpa using hsc
   rw [ab hsc];rw [aaj] at jK;have Za:=Ru s a c hs hc
   have hlen:(gP s a).length<=2:=by
    have:(gP s a=cW s a (a+2)\/gP s a=cW s a (a+1))\/gP s a=[]:=by
     unfold gP;split
     ·exact .inl (.inl rfl)
     ·split
      ·exact .inl (.inr rfl)
      ·exact .inr rfl
    rcases this with (h | h) | h <;> rw [h]
    ·unfold cW;rw [iM,fV];omega
    ·unfold cW;rw [iM,fV];omega
    ·simp
   generalize gP s a=x at *
   by_cases hx:x=[]
   ·have SV:(x==[])=true:=by simpa using hx
    rw [ae hx];refine ai func168 ntmps168 ?_;refine D [] nw ?_;refine D [] jK ?_;refine D [] Za ?_;refine mP ?_;exact ⟨rfl,rfl⟩
   ·have SV:(x==[])=false:=by simpa using hx
    rw [ab hx];refine ai func168 ntmps168 ?_;refine D [] nw ?_;refine D [] jK ?_;refine D [] Za ?_;refine mP ?_;exact ⟨rfl,rfl⟩
def DL (x t:ah):Bool:=decide (t.length<=x.length)&&(x.take t.length==t)
theorem K9 (x t:ah) (hx:x.length<=1099511627776) (ht:t.length<=1099511627776):GF prog 205 [.v (sv x),.v (sv t)] [] (.v (.bool (DL x t))) []:=by
 unfold DL
 by_cases h:t.length<=x.length
 ·have I:decide ((t.length:Int)<=(x.length:Int))=true:=by simpa using h
  rw [decide_eq_true h];refine ai func205 ntmps205 ?_;exact ak
 ·have I:decide ((t.length:Int)<=(x.length:Int))=false:=by simpa using by omega
  rw [decide_eq_false h];refine ai func205 ntmps205 ?_;exact ak
theorem II (x t:ah) (hx:x.length<=1099511627776) (ht:t.length<=1099511627776):GF prog 166 [.v (sv x),.v (sv t)] [] (.v (.bool (DL x t))) []:=by
 have h:=K9 x t hx ht;generalize DL x t=b at *;refine ai func166 ntmps166 ?_;refine D [] h ?_;exact ak
theorem IX {s t:ah} {a:Nat} (ha:a<=s.length):DL (s.drop a) t=bF s a t:=by
 unfold DL bF;rw [iM,List.drop_take,show a+t.length - a=t.length by omega]
 congr 1
 rw [Bool.eq_iff_iff];simp;omega
theorem IJ (c:UInt8):GF prog 165 [.v (sv [32,9,10,13]),EB c] [] (.v (ii (Go.Lib.indexByte [32,9,10,13] c))) []:=by
 refine GF.WB (vs:=[sv [32,9,10,13],.int .u8 (c.toNat:Int)]) fun K β w ht hf=>?_
 refine nm.BW (Calls.mono (strings_IndexByte ⟨[32,9,10,13].toArray⟩ (c.toNat:Int) w) ?_);rintro e w' ⟨I,F⟩;refine ⟨_,I,?_,by rw [F];exact Ext.refl w⟩;simp
theorem P2 (x:ah) (hx:x.length<=4294967280):GF prog 167 [.v (sv x),.v (sv [42,47])] [] (.v (ii (Go.Lib.index x [42,47]))) []:=by
 refine GF.WB (vs:=[sv x,sv [42,47]]) fun K β w ht hf=>?_
 obtain ⟨m,hm⟩:=ht.maxLen hf;refine nm.BW (Calls.mono (strings_Index ⟨x.toArray⟩ ⟨[42,47].toArray⟩ m w (by show (x.toArray).size < _;simp;omega) hm) ?_);rintro e w' ⟨I,F⟩;refine ⟨_,I,?_,by rw [F];exact Ext.refl w⟩;simp
theorem P7 (c:UInt8):decide ((0:Int)<=Go.Lib.indexByte [32,9,10,13] c)=dU c:=by
 have hb:dU c=((32:UInt8)==c || (9:UInt8)==c || (10:UInt8)==c || (13:UInt8)==c):=by
  have e:∀ k:UInt8,((c.toNat:Int)==(k.toNat:Int))=(k==c):=fun k=>by
   rw [Bool.eq_iff_iff];simp only [beq_iff_eq]
   exact ⟨fun h=>by
    have:c.toNat=k.toNat:=by omega
    exact (UInt8.toNat_inj.1 this).symm,fun h=>by rw [h]⟩
  have e1:=e 32;have e2:=e 9;have e3:=e 10;have e4:=e 13;unfold dU;rw [<-e1,<-e2,<-e3,<-e4];rfl
 rw [hb];unfold Go.Lib.indexByte Go.Lib.indexByte Go.Lib.indexByte Go.Lib.indexByte Go.Lib.indexByte
 cases (32:UInt8)==c <;> cases (9:UInt8)==c <;> cases (10:UInt8)==c <;> cases (13:UInt8)==c <;> decide
theorem Oz (l:ah):Go.Lib.index l [42,47]=(match qV l with | none => -1 | some n=>(n:Int)):=by
 induction l with
 | nil=>rfl
 | cons b l ih =>
  rw [Go.Lib.index,qV];split
  ·rfl
  ·rw [ih]
   cases qV l with
   | none=>rfl
   | some n =>
    simp only;rw [ab (by simp <;> omega)];simp
theorem Q3 (s:ah) (f:Nat) (ts:List Tok) (c z:Int) (hs:s.length<=4294967280) (h:nQ s f 0 []=some (ts,c,z)) :
  GF prog 121 [.v (sv s)] [] (.tup [jr ts,.v (ii c),.v (ii z)]) []:=by
 refine ai func121 ntmps121 ?_;refine GW.wk (Wk.DY (t:=5) (a:=none) (c:=0) 166 4 rfl) ?_;refine GW.loop (fun x:Nat × Nat × List Tok=>x.1) (fun x fr Γ=>∃ n rows,fr=[.v (sv s),U,.v (.slice none 0 0),.v (ii 0),.v (ii 0),.vec 0 n,.v (ii (x.2.1:Nat)),U,U,U,U,U,U,U,U,U,U,U,U,U,U,U,U,U,U,U,U,U,U,U,U,U,U,U,U,U,U,U,U,U,U,U,U,U,U,U,U,U,U,U,U,U,U,U,U]/\Γ=[.vec 166 4 0 rows]/\rows.length=n/\rows=x.2.2.map dv/\x.2.1<=s.length/\n<=x.2.1/\nQ s x.1 x.2.1 x.2.2=some (ts,c,z)) (f,0,[]) ?_ ?_
 ·exact ⟨_,_,Wk.aK av,0,[],rfl,rfl,rfl,rfl,aX _,aH _,h⟩
 ·clear h;rintro ⟨f,a,acc⟩ _ _ ⟨n,rows,rfl,rfl,hn,bG,ha,J3,h⟩;simp only at bG ha J3 h
  cases f with
  | zero=>cases h
  | succ f =>
  rw [nQ] at h
  cases hc:s[a]? with
  | none =>
   rw [hc] at h;cases h;have ko:s.length<=a:=py hc
   have hd:decide ((a:Int) < (s.length:Int))=false:=by simpa using ko
   refine dd ?_;refine GW.wk (Wk.ki (t:=5) rfl rfl rfl hn) ?_;refine G ?_;refine KU ?_;exact ⟨by rw [bG];rfl,rfl⟩
  | some ch =>
   rw [hc] at h;simp only at h;have ar:a < s.length:=(bh hc).1
   have hd:decide ((a:Int) < (s.length:Int))=true:=by simpa using ar
   have N6:=IJ ch;have qx:=P7 ch
   cases hb:dU ch with
   | true =>
    rw [ae hb] at h;rw [hb] at qx;generalize Go.Lib.indexByte [32,9,10,13] ch=ib at *;refine G ?_;refine D [] N6 ?_;refine jQ ?_;exact ⟨(f,a+1,acc),⟨_,_,Wk.aK av,n,rows,rfl,rfl,hn,bG,ar,by simp only;omega,h⟩,by simp⟩
   | false =>
    rw [ab (by rw [hb];decide)] at h;rw [hb] at qx;generalize Go.Lib.indexByte [32,9,10,13] ch=ib at *;have ox:=II (s.drop a) [47,42] (by rw [iM];omega) aM;rw [IX ha] at ox
    cases ot:bF s a [47,42] with
    | true =>
     rw [ae ot] at h;rw [ot] at ox;have nV:=Go.Sp.kc ot;simp only [length_cons,length_nil] at nV;have yL:=P2 (s.drop (a+2)) (by rw [iM];omega);rw [Oz] at yL
     have NW:a+2<=s.length:=by omega
     cases hi:qV (s.drop (a+2)) with
     | none =>
      rw [hi] at yL h;cases h;refine G ?_;refine D [] N6 ?_;refine D [] ox ?_;refine D [] yL ?_;refine r7 ?_;exact ⟨_,jR,rfl,rfl⟩
     | some e =>
      rw [hi] at yL h;have eR:=Go.Im.DP hi;rw [iM] at eR
      have VW:decide (((e:Nat):Int) < 0)=false:=by simp
      refine G ?_;refine D [] N6 ?_;refine D [] ox ?_;refine D [] yL ?_;refine jQ ?_;exact ⟨(f,a+(e+4),acc),⟨_,_,Wk.aK av,n,rows,rfl,rfl,hn,bG,by simp only;omega,by simp only;omega,h⟩,by simp⟩
    | false =>
     rw [ab (by rw [ot];decide)] at h;rw [ot] at ox;have lL:=U0 s a ch ag hc
     have eT:=fun h0=>Go.Im.KS hc h0
     generalize lp s a ch=R at *;obtain ⟨t,e,code⟩:=R;simp only at lL h eT
     by_cases h0:code=0
     ·rw [ab (by simpa using h0)] at h
      have um:(code != 0)=false:=by simpa using h0
      obtain ⟨_,_,k3,k4⟩:=eT h0;refine G ?_;refine D [] N6 ?_;refine D [] ox ?_;refine D [] lL ?_;refine fG ?_;refine G ?_;exact ⟨(f,e,acc++[t]),⟨_,_,(Wk.cut (n:=1) (fi rfl) rfl).trans (Wk.aK av),_,_,rfl,rfl,by simp [hn],by rw [o0,bG];rfl,k4,by simp only;omega,h⟩,by simp⟩
     ·rw [ae h0] at h
      have um:(code != 0)=true:=by simpa using h0
      cases h;refine G ?_;refine D [] N6 ?_;refine D [] ox ?_;refine D [] lL ?_;refine r7 ?_;exact ⟨_,jR,rfl,rfl⟩
end Go.Xg
namespace Go.Xg
open GV (U)
open Go.RowKit Go.Xw Go.Proofs Tryz
open Go.Xp (Tok Nd T aO aC)
open Go.Sp (Src)
open Go.Im (pP rp tr jE cY fo qW)
attribute [local irreducible] GW GL GO YG GC GA ba bc
theorem QN:∀ (N:Nat) (t:T),aO t<=N->aO t<=1099511627776->GF prog 117 [uT t] [] (.v (.bool (fo t))) []:=by
 intro N
 induction N with
 | zero=>intro t h;rw [Go.Xp.eO] at h;omega
 | succ N ih =>
 intro t hN hb;rw [Go.Xp.eO] at hN hb;have eS:=Go.Xp.bZ t.kids;have oy:=rX t.kids;rw [Go.Im.yW,Go.Im.qf];unfold uT;generalize t.n.kind=kd;refine dT func117 ntmps117 ?_;refine KX ?_;refine GW.join (fun fr Γ=>fr=[.box [.v (ii kd),.v (ii t.n.at_),.v (ii t.n.n),.v (sv t.n.s),ints t.n.kids,.sl 1 (cv t.kids)] 0,U,U,U,.v (.bool (cY kd t.kids.length)),U,U,U,U,U,U,U,U,U,U,U,U,U,U,U,U,U,U,U,U,U,U,U,U,U,U,U,U,U,U,U,U,U,U,U,U,U,U,U,U,U,U,U,U,U,U,U,U,U,U,U,U,U,U,U,U,U,U,U]/\Γ=[]) ?_ ?_
 ·rw [<-oy];generalize (cv t.kids)=l
  by_cases I:kd=1
  ·subst I
   have c8:((1:Int)==1)=true:=by decide
   rw [show cY 1 l.length=((l.length:Int)==0) by unfold cY;simp];exact jd
  by_cases F:kd=2
  ·subst F
   have c8:((2:Int)==1)=false:=by decide
   have lk:((2:Int)==2)=true:=by decide
   rw [show cY 2 l.length=((l.length:Int)==0) by unfold cY;simp];exact jd
  by_cases h4:kd=4
  ·subst h4
   have c8:((4:Int)==1)=false:=by decide
   have lk:((4:Int)==2)=false:=by decide
   have f4:((4:Int)==4)=true:=by decide
   rw [show cY 4 l.length=true by unfold cY;simp];exact jd
  by_cases CA:kd=14
  ·subst CA
   have c8:((14:Int)==1)=false:=by decide
   have lk:((14:Int)==2)=false:=by decide
   have f4:((14:Int)==4)=false:=by decide
   have f14:((14:Int)==14)=true:=by decide
   rw [show cY 14 l.length=true by unfold cY;simp];exact jd
  by_cases h3:kd=3
  ·subst h3
   have c8:((3:Int)==1)=false:=by decide
   have lk:((3:Int)==2)=false:=by decide
   have f4:((3:Int)==4)=false:=by decide
   have f14:((3:Int)==14)=false:=by decide
   have qa:((3:Int)==3)=true:=by decide
   rw [show cY 3 l.length=((l.length:Int)==1) by unfold cY;simp];exact jd
  by_cases h5:kd=5
  ·subst h5
   have c8:((5:Int)==1)=false:=by decide
   have lk:((5:Int)==2)=false:=by decide
   have f4:((5:Int)==4)=false:=by decide
   have f14:((5:Int)==14)=false:=by decide
   have qa:((5:Int)==3)=false:=by decide
   have f5:((5:Int)==5)=true:=by decide
   rw [show cY 5 l.length=((l.length:Int)==1) by unfold cY;simp];exact jd
  by_cases h7:kd=7
  ·subst h7
   have c8:((7:Int)==1)=false:=by decide
   have lk:((7:Int)==2)=false:=by decide
   have f4:((7:Int)==4)=false:=by decide
   have f14:((7:Int)==14)=false:=by decide
   have qa:((7:Int)==3)=false:=by decide
   have f5:((7:Int)==5)=false:=by decide
   have f7:((7:Int)==7)=true:=by decide
   rw [show cY 7 l.length=((l.length:Int)==1) by unfold cY;simp];exact jd
  by_cases pE:kd=11
  ·subst pE
   have c8:((11:Int)==1)=false:=by decide
   have lk:((11:Int)==2)=false:=by decide
   have f4:((11:Int)==4)=false:=by decide
   have f14:((11:Int)==14)=false:=by decide
   have qa:((11:Int)==3)=false:=by decide
   have f5:((11:Int)==5)=false:=by decide
   have f7:((11:Int)==7)=false:=by decide
   have f11:((11:Int)==11)=true:=by decide
   rw [show cY 11 l.length=((l.length:Int)==1) by unfold cY;simp];exact jd
  by_cases o7:kd=12
  ·subst o7
   have c8:((12:Int)==1)=false:=by decide
   have lk:((12:Int)==2)=false:=by decide
   have f4:((12:Int)==4)=false:=by decide
   have f14:((12:Int)==14)=false:=by decide
   have qa:((12:Int)==3)=false:=by decide
   have f5:((12:Int)==5)=false:=by decide
   have f7:((12:Int)==7)=false:=by decide
   have f11:((12:Int)==11)=false:=by decide
   have f12:((12:Int)==12)=true:=by decide
   rw [show cY 12 l.length=((l.length:Int)==1) by unfold cY;simp];exact jd
  by_cases fu:kd=13
  ·subst fu
   have c8:((13:Int)==1)=false:=by decide
   have lk:((13:Int)==2)=false:=by decide
   have f4:((13:Int)==4)=false:=by decide
   have f14:((13:Int)==14)=false:=by decide
   have qa:((13:Int)==3)=false:=by decide
   have f5:((13:Int)==5)=false:=by decide
   have f7:((13:Int)==7)=false:=by decide
   have f11:((13:Int)==11)=false:=by decide
   have f12:((13:Int)==12)=false:=by decide
   have f13:((13:Int)==13)=true:=by decide
   rw [show cY 13 l.length=((l.length:Int)==1) by unfold cY;simp];exact jd
  by_cases h6:kd=6
  ·subst h6
   have c8:((6:Int)==1)=false:=by decide
   have lk:((6:Int)==2)=false:=by decide
   have f4:((6:Int)==4)=false:=by decide
   have f14:((6:Int)==14)=false:=by decide
   have qa:((6:Int)==3)=false:=by decide
   have f5:((6:Int)==5)=false:=by decide
   have f7:((6:Int)==7)=false:=by decide
   have f11:((6:Int)==11)=false:=by decide
   have f12:((6:Int)==12)=false:=by decide
   have f13:((6:Int)==13)=false:=by decide
   have f6:((6:Int)==6)=true:=by decide
   rw [show cY 6 l.length=((l.length:Int)==2) by unfold cY;simp];exact jd
  by_cases h8:kd=8
  ·subst h8
   have c8:((8:Int)==1)=false:=by decide
   have lk:((8:Int)==2)=false:=by decide
   have f4:((8:Int)==4)=false:=by decide
   have f14:((8:Int)==14)=false:=by decide
   have qa:((8:Int)==3)=false:=by decide
   have f5:((8:Int)==5)=false:=by decide
   have f7:((8:Int)==7)=false:=by decide
   have f11:((8:Int)==11)=false:=by decide
   have f12:((8:Int)==12)=false:=by decide
   have f13:((8:Int)==13)=false:=by decide
   have f6:((8:Int)==6)=false:=by decide
   have f8:((8:Int)==8)=true:=by decide
   rw [show cY 8 l.length=((l.length:Int)==2) by unfold cY;simp];exact jd
  by_cases ma:kd=10
  ·subst ma
   have c8:((10:Int)==1)=false:=by decide
   have lk:((10:Int)==2)=false:=by decide
   have f4:((10:Int)==4)=false:=by decide
   have f14:((10:Int)==14)=false:=by decide
   have qa:((10:Int)==3)=false:=by decide
   have f5:((10:Int)==5)=false:=by decide
   have f7:((10:Int)==7)=false:=by decide
   have f11:((10:Int)==11)=false:=by decide
   have f12:((10:Int)==12)=false:=by decide
   have f13:((10:Int)==13)=false:=by decide
   have f6:((10:Int)==6)=false:=by decide
   have f8:((10:Int)==8)=false:=by decide
   have f10:((10:Int)==10)=true:=by decide
   rw [show cY 10 l.length=((l.length:Int)==2) by unfold cY;simp];exact jd
  by_cases h9:kd=9
  ·subst h9
   have c8:((9:Int)==1)=false:=by decide
   have lk:((9:Int)==2)=false:=by decide
   have f4:((9:Int)==4)=false:=by decide
   have f14:((9:Int)==14)=false:=by decide
   have qa:((9:Int)==3)=false:=by decide
   have f5:((9:Int)==5)=false:=by decide
   have f7:((9:Int)==7)=false:=by decide
   have f11:((9:Int)==11)=false:=by decide
   have f12:((9:Int)==12)=false:=by decide
   have f13:((9:Int)==13)=false:=by decide
   have f6:((9:Int)==6)=false:=by decide
   have f8:((9:Int)==8)=false:=by decide
   have f10:((9:Int)==10)=false:=by decide
   have f9:((9:Int)==9)=true:=by decide
   cases hq:((l.length:Int)==2) with
   | true =>
    rw [show cY 9 l.length=true by unfold cY;simp [hq]];exact jd
   | false =>
    rw [show cY 9 l.length=((l.length:Int)==3) by unfold cY;simp [hq]];exact jd
  have e:cY kd l.length=false:=by unfold cY;simp [I,F,h4,CA,h3,h5,h7,pE,o7,fu,h6,h8,ma,h9]
  rw [e]
  have g1:(kd==1)=false:=by simpa using I
  have g2:(kd==2)=false:=by simpa using F
  have g4:(kd==4)=false:=by simpa using h4
  have g14:(kd==14)=false:=by simpa using CA
  have g3:(kd==3)=false:=by simpa using h3
  have g5:(kd==5)=false:=by simpa using h5
  have g7:(kd==7)=false:=by simpa using h7
  have g11:(kd==11)=false:=by simpa using pE
  have g12:(kd==12)=false:=by simpa using o7
  have g13:(kd==13)=false:=by simpa using fu
  have g6:(kd==6)=false:=by simpa using h6
  have g8:(kd==8)=false:=by simpa using h8
  have g10:(kd==10)=false:=by simpa using ma
  have g9:(kd==9)=false:=by simpa using h9
  exact jd
 ·rintro _ _ ⟨rfl,rfl⟩;generalize cY kd t.kids.length=b0;refine G ?_;refine GW.range (cv t.kids).length (fun k fr Γ=>fr=[U,U,U,U,.v (.bool (b0&&(t.kids.take k).all fo)),U,U,U,U,U,U,U,U,U,U,U,U,U,U,U,U,U,U,U,U,U,U,U,U,U,U,U,U,U,U,U,U,U,U,U,U,U,U,U,U,U,U,U,U,U,U,.sl 1 (cv t.kids),.v (ii ((cv t.kids).length:Int)),.v (ii (k:Nat)),U,U,U,U,U,U,U,U,U,U]/\Γ=[]) ?_ ag ?_ ?_ ?_
  ·refine ⟨_,_,Wk.aK (cl:=[U,U,U,U,.v (.bool b0),U,U,U,U,U,U,U,U,U,U,U,U,U,U,U,U,U,U,U,U,U,U,U,U,U,U,U,U,U,U,U,U,U,U,U,U,U,U,U,U,U,U,U,U,U,U,.sl 1 (cv t.kids),.v (ii ((cv t.kids).length:Int)),.v (ii (0:Nat)),U,U,U,U,U,U,U,U,U,U]) av,?_,rfl⟩;rw [List.take_zero,List.all_nil,Bool.and_true]
  ·rintro k _ _ ⟨rfl,rfl⟩;exact dI
  ·rintro k _ _ ar ⟨rfl,rfl⟩;rw [oy] at ar;obtain ⟨yX,kD⟩:∃ yX,t.kids[k]?=some yX:=⟨t.kids[k],by simp [ar]⟩;have hr:=wK kD;have cB:=Go.Xp.vN kD;have hle:=Go.Xp.vM t.kids (k+1);have EY:=ih yX ag ag
   have aY:(t.kids.take (k+1)).all fo=((t.kids.take k).all fo&&fo yX):=by rw [cq,kD,all_append];simp
   rw [aY,<-Bool.and_assoc];generalize (b0&&(t.kids.take k).all fo)=b at *
   cases b with
   | true =>
    refine G ?_;refine D [] EY ?_;exact ⟨rfl,rfl,_,_,Wk.aK av,rfl,rfl⟩
   | false =>
    refine G ?_;exact ⟨rfl,rfl,_,_,Wk.aK av,rfl,rfl⟩
  ·rintro _ _ ⟨rfl,rfl⟩;rw [oy,cy];exact ax
def xD (l:List T):Int:=match l.findIdx? (fun t=>!(fo t)) with | some i=>(i:Int) | none => -1
theorem OD (t:T) (hb:aO t<=1099511627776):GF prog 116 [uT t] [] (.v (.bool (!(fo t)))) []:=by
 have h:=QN _ t (aH _) hb;generalize fo t=b at *;refine ai func116 ntmps116 ?_;refine D [] h ?_;exact ak
theorem IL (l:List T) (hl:l.length<=1099511627776) (hb:∀ t∈l,aO t<=1099511627776) :
  GF prog 157 [.sl 1 (cv l),.v (.func (.func 116) #[] #[])] [] (.v (ii (xD l))) []:=by
 have oy:=rX l;refine ai func157 ntmps157 ?_;refine GW.range (cv l).length (fun k fr Γ=>fr=[.sl 1 (cv l),.v (.func (.func 116) #[] #[]),U,U,U,U,U,.v (ii ((cv l).length:Int)),.v (ii (k:Nat)),U,U,U,U,U,U,U,U,U,U]/\Γ=[]/\(l.take k).all fo=true) ?_ ag ?_ ?_ ?_
 ·exact jW
 ·exact ig
 ·rintro k _ _ ar ⟨rfl,rfl,aY⟩;rw [oy] at ar
  have de:l[k]?=some l[k]:=by simp [ar]
  have hr:=wK de;have bX:=OD l[k] (hb _ (List.getElem_mem ar))
  have bB:(l.take (k+1)).all fo=((l.take k).all fo&&fo l[k]):=by rw [cq,de,all_append];simp
  have AA:fo l[k]=false->xD l=(k:Int):=fun h0=>by
   have:l.findIdx? (fun t=>!(fo t))=some k:=by
    rw [List.findIdx?_eq_some_iff_getElem];refine ⟨ar,by simp [h0],fun j hj=>?_⟩;rw [fE] at aY;have:=aY l[j] (by rw [List.mem_take_iff_getElem];exact ⟨j,by omega,rfl⟩);simp [this]
   unfold xD;rw [this]
  generalize l[k]=t at *
  cases hk:fo t with
  | true =>
   rw [hk] at bX bB;refine G ?_;refine ju [] bX ?_;refine G ?_;exact ⟨rfl,rfl,_,_,Wk.aK av,rfl,rfl,by rw [bB,aY];rfl⟩
  | false =>
   rw [hk] at bX;rw [AA hk];refine G ?_;refine ju [] bX ?_;exact ax
 ·rintro _ _ ⟨rfl,rfl,aY⟩;rw [oy,cy] at aY
  have:l.findIdx? (fun t=>!(fo t))=none:=by
   rw [List.findIdx?_eq_none_iff];intro x hx;rw [fE] at aY;simp [aY x hx]
  unfold xD;rw [this];exact ax
theorem Q9 (l:List T):decide ((0:Int)<=xD l)=!(l.all fo):=by
 unfold xD
 cases h:l.findIdx? (fun t=>!(fo t)) with
 | some i =>
  rw [List.findIdx?_eq_some_iff_getElem] at h;obtain ⟨I,F,_⟩:=h
  have:l.all fo=false:=by
   rw [List.all_eq_false];exact ⟨l[i],List.getElem_mem _,by simpa using F⟩
  rw [this];simp
 | none =>
  rw [List.findIdx?_eq_none_iff] at h
  have:l.all fo=true:=by rw [fE];intro x hx;simpa using h x hx
  rw [this];rfl
theorem vP (l:List T) (hl:l.length<=1099511627776) (hb:∀ t∈l,aO t<=1099511627776) :
  GF prog 115 [.sl 1 (cv l),.v (.func (.func 116) #[] #[])] [] (.v (.bool (!(l.all fo)))) []:=by
 have h:=IL l hl hb;rw [<-Q9];generalize xD l=z at *;refine ai func115 ntmps115 ?_;refine D [] h ?_;exact ak
end Go.Xg
set_option maxHeartbeats 2000000
namespace Go.Xg
open Go.RowKit Go.Xw Go.Proofs Tryz
open Go.Xp (Tok Nd T Ar aO aC eK)
open Go.Sp (Src)
open Go.Im
attribute [local irreducible] GW GL GO YG GC GA ba bc
theorem RX:Wr 119 120 dh gq :=
 ⟨fun a I F h3=>UX _ a (aH _) I F h3,fun l d I F h3=>QH l d I F,fun l d s h=>QI h⟩
theorem F4 (p:Src) (h:p.nodes.length > 800):GF prog 95 [.agg (ao p)] [] (.v (.bool false)) []:=by
 have hm:(p.nodes.map aB).length=p.nodes.length:=by simp
 have hd:decide ((800:Int) < ((p.nodes.map aB).length:Int))=true:=by rw [hm];simpa using by omega
 refine ai func95 ntmps95 ?_;exact ak
theorem Dr (p:Src) (h:p.nodes.length<=800) (hk:∀ n∈p.nodes,n.kids.length<=1099511627776) (hf:p.fns.length<=1099511627776) (hb:jE p.nodes p.fns 0 []=none):GF prog 95 [.agg (ao p)] [] (.v (.bool false)) []:=by
 have hm:(p.nodes.map aB).length=p.nodes.length:=by simp
 have hd:decide ((800:Int) < ((p.nodes.map aB).length:Int))=false:=by rw [hm];simpa using by omega
 have hB:=w8 p ag hk hf;rw [hb] at hB;unfold Dx at hB;refine ai func95 ntmps95 ?_;refine D [] hB ?_;exact ak
theorem IG (p:Src) (l:List T) (e:Nat) (h:p.nodes.length<=800) (hk:∀ n∈p.nodes,n.kids.length<=1099511627776) (hf:p.fns.length<=1099511627776) (hb:jE p.nodes p.fns 0 []=some (l,e)) (he:e≠p.nodes.length):GF prog 95 [.agg (ao p)] [] (.v (.bool false)) []:=by
 have hm:(p.nodes.map aB).length=p.nodes.length:=by simp
 have hd:decide ((800:Int) < ((p.nodes.map aB).length:Int))=false:=by rw [hm];simpa using by omega
 have hB:=w8 p ag hk hf;rw [hb] at hB;unfold Dx at hB;simp only at hB;rw [show ((e:Int)==(p.nodes.length:Int))=false by simp only [beq_eq_false_iff_ne,ne_eq];omega] at hB;refine ai func95 ntmps95 ?_;refine D [] hB ?_;exact ak
theorem F3 (p:Src) (l:List T) (h:p.nodes.length<=800) (hk:∀ n∈p.nodes,n.kids.length<=1099511627776) (hf:p.fns.length<=1099511627776) (hb:jE p.nodes p.fns 0 []=some (l,p.nodes.length)) (hl:l.length<=1099511627776) (hs:∀ t∈l,aO t<=1099511627776) (hn:l.all fo=false):GF prog 95 [.agg (ao p)] [] (.v (.bool false)) []:=by
 have hm:(p.nodes.map aB).length=p.nodes.length:=by simp
 have hd:decide ((800:Int) < ((p.nodes.map aB).length:Int))=false:=by rw [hm];simpa using by omega
 have hB:=w8 p ag hk hf;rw [hb] at hB;unfold Dx at hB;simp only at hB;rw [show ((p.nodes.length:Int)==(p.nodes.length:Int))=true by simp] at hB;have hC:=vP l hl hs;rw [hn] at hC;refine ai func95 ntmps95 ?_;refine D [] hB ?_;refine D [] hC ?_;exact ak
theorem Pd (st:PS) (h:st.fns.length=st.trees.length):n7 st.fns st.trees st.trees.length=(pS st).map ay:=by
 unfold n7 pS;apply ext_getElem?;intro i;rw [aV,getElem?_mapIdx,getElem?_mapIdx]
 cases hx:st.fns[i]? with
 | none=>rfl
 | some x =>
  have hi:=(bh hx).1;simp only [Option.map_some];rw [ae ag];rfl
def Tf (st:PS):Src:=⟨st.globals,st.arrays,pS st,eK 0 st.trees⟩
theorem WX {q:Go.Sp.RS} {st:PS} (hc:q.code=0) (h8:¬ aC st.trees > 800) (h:st.fns.length=st.trees.length):Kx q st=.tup [.agg (ao (Tf st)),.v (ii 0),.v (ii 0)]:=by
 unfold Kx;rw [ae hc,ab h8,Pd st h];rfl
theorem IH (p:Src) (l:List T) (x:ah) (ts:List Tok) (c z:Int) (h:p.nodes.length<=800) (hB:GF prog 114 [.agg (ao p)] [] (.tup [.sl 1 (cv l),.v (.bool true)]) [])
  (hC:GF prog 115 [.sl 1 (cv l),.v (.func (.func 116) #[] #[])] [] (.v (.bool false)) [])
  (hL:GF prog 118 [.agg (ao p),.sl 1 (cv l),.v (jx 119),.v (jx 120)] [] (.v (sv x)) [])
  (hX:GF prog 121 [.v (sv x)] [] (.tup [jr ts,.v (ii c),.v (ii z)]) []) (hc:(c != 0)=true) :
  GF prog 95 [.agg (ao p)] [] (.v (.bool false)) []:=by
 have hm:(p.nodes.map aB).length=p.nodes.length:=by simp
 have hd:decide ((800:Int) < ((p.nodes.map aB).length:Int))=false:=by rw [hm];simpa using by omega
 refine ai func95 ntmps95 ?_;refine D [] hB ?_;refine D [] hC ?_;refine D [] hL ?_;refine D [] hX ?_;exact ak
theorem Aj (p:Src) (l:List T) (x:ah) (ts:List Tok) (c k a:Int) (h:p.nodes.length<=800) (hB:GF prog 114 [.agg (ao p)] [] (.tup [.sl 1 (cv l),.v (.bool true)]) [])
  (hC:GF prog 115 [.sl 1 (cv l),.v (.func (.func 116) #[] #[])] [] (.v (.bool false)) [])
  (hL:GF prog 118 [.agg (ao p),.sl 1 (cv l),.v (jx 119),.v (jx 120)] [] (.v (sv x)) [])
  (hX:GF prog 121 [.v (sv x)] [] (.tup [jr ts,.v (ii 0),.v (ii c)]) [])
  (hP:GF prog 122 [jr ts,.v (ii (x.length:Int))] [] (.tup [.agg [.sl 1 [],.sl 2 [],.sl 3 [],.sl 5 []],.v (ii k),.v (ii a)]) []) (hk:(k==0)=false) :
  GF prog 95 [.agg (ao p)] [] (.v (.bool false)) []:=by
 have hm:(p.nodes.map aB).length=p.nodes.length:=by simp
 have hd:decide ((800:Int) < ((p.nodes.map aB).length:Int))=false:=by rw [hm];simpa using by omega
 refine ai func95 ntmps95 ?_;refine D [] hB ?_;refine D [] hC ?_;refine D [] hL ?_;refine D [] hX ?_;refine D [] hP ?_;exact ak
theorem K5 (p r:Src) (l:List T) (x:ah) (ts:List Tok) (c:Int) (h:p.nodes.length<=800) (hB:GF prog 114 [.agg (ao p)] [] (.tup [.sl 1 (cv l),.v (.bool true)]) [])
  (hC:GF prog 115 [.sl 1 (cv l),.v (.func (.func 116) #[] #[])] [] (.v (.bool false)) [])
  (hL:GF prog 118 [.agg (ao p),.sl 1 (cv l),.v (jx 119),.v (jx 120)] [] (.v (sv x)) [])
  (hX:GF prog 121 [.v (sv x)] [] (.tup [jr ts,.v (ii 0),.v (ii c)]) [])
   (hg:GF prog 123 [strs p.globals,strs r.globals] [] (.v (.bool false)) [])
  (hP:GF prog 122 [jr ts,.v (ii (x.length:Int))] [] (.tup [.agg (ao r),.v (ii 0),.v (ii 0)]) []) :
  GF prog 95 [.agg (ao p)] [] (.v (.bool false)) []:=by
 have hm:(p.nodes.map aB).length=p.nodes.length:=by simp
 have hd:decide ((800:Int) < ((p.nodes.map aB).length:Int))=false:=by rw [hm];simpa using by omega
 refine ai func95 ntmps95 ?_;refine D [] hB ?_;refine D [] hC ?_;refine D [] hL ?_;refine D [] hX ?_;refine D [] hP ?_;refine D [] hg ?_;exact ak
theorem K6 (p r:Src) (l:List T) (x:ah) (ts:List Tok) (c:Int) (h:p.nodes.length<=800) (hB:GF prog 114 [.agg (ao p)] [] (.tup [.sl 1 (cv l),.v (.bool true)]) [])
  (hC:GF prog 115 [.sl 1 (cv l),.v (.func (.func 116) #[] #[])] [] (.v (.bool false)) [])
  (hL:GF prog 118 [.agg (ao p),.sl 1 (cv l),.v (jx 119),.v (jx 120)] [] (.v (sv x)) [])
  (hX:GF prog 121 [.v (sv x)] [] (.tup [jr ts,.v (ii 0),.v (ii c)]) [])
   (hg:GF prog 123 [strs p.globals,strs r.globals] [] (.v (.bool true)) [])
  (ha:GF prog 124 [(.sl 2 (p.arrays.map fun s=>aL s)),(.sl 2 (r.arrays.map fun s=>aL s))] [] (.v (.bool false)) [])
  (hP:GF prog 122 [jr ts,.v (ii (x.length:Int))] [] (.tup [.agg (ao r),.v (ii 0),.v (ii 0)]) []) :
  GF prog 95 [.agg (ao p)] [] (.v (.bool false)) []:=by
 have hm:(p.nodes.map aB).length=p.nodes.length:=by simp
 have hd:decide ((800:Int) < ((p.nodes.map aB).length:Int))=false:=by rw [hm];simpa using by omega
 refine ai func95 ntmps95 ?_;refine D [] hB ?_;refine D [] hC ?_;refine D [] hL ?_;refine D [] hX ?_;refine D [] hP ?_;refine D [] hg ?_;refine D [] ha ?_;exact ak
theorem K7 (p r:Src) (l:List T) (x:ah) (ts:List Tok) (c:Int) (h:p.nodes.length<=800) (hB:GF prog 114 [.agg (ao p)] [] (.tup [.sl 1 (cv l),.v (.bool true)]) [])
  (hC:GF prog 115 [.sl 1 (cv l),.v (.func (.func 116) #[] #[])] [] (.v (.bool false)) [])
  (hL:GF prog 118 [.agg (ao p),.sl 1 (cv l),.v (jx 119),.v (jx 120)] [] (.v (sv x)) [])
  (hX:GF prog 121 [.v (sv x)] [] (.tup [jr ts,.v (ii 0),.v (ii c)]) [])
   (hg:GF prog 123 [strs p.globals,strs r.globals] [] (.v (.bool true)) [])
  (ha:GF prog 124 [(.sl 2 (p.arrays.map fun s=>aL s)),(.sl 2 (r.arrays.map fun s=>aL s))] [] (.v (.bool true)) [])
  (hf:GF prog 125 [.sl 3 (p.fns.map ay),.sl 3 (r.fns.map ay),.v (.func (.func 126) #[] #[])] [] (.v (.bool false)) [])
  (hP:GF prog 122 [jr ts,.v (ii (x.length:Int))] [] (.tup [.agg (ao r),.v (ii 0),.v (ii 0)]) []) :
  GF prog 95 [.agg (ao p)] [] (.v (.bool false)) []:=by
 have hm:(p.nodes.map aB).length=p.nodes.length:=by simp
 have hd:decide ((800:Int) < ((p.nodes.map aB).length:Int))=false:=by rw [hm];simpa using by omega
 refine ai func95 ntmps95 ?_;refine D [] hB ?_;refine D [] hC ?_;refine D [] hL ?_;refine D [] hX ?_;refine D [] hP ?_;refine D [] hg ?_;refine D [] ha ?_;refine D [] hf ?_;exact ak
theorem K8 (p r:Src) (l:List T) (x:ah) (ts:List Tok) (c:Int) (b:Bool) (h:p.nodes.length<=800) (hB:GF prog 114 [.agg (ao p)] [] (.tup [.sl 1 (cv l),.v (.bool true)]) [])
  (hC:GF prog 115 [.sl 1 (cv l),.v (.func (.func 116) #[] #[])] [] (.v (.bool false)) [])
  (hL:GF prog 118 [.agg (ao p),.sl 1 (cv l),.v (jx 119),.v (jx 120)] [] (.v (sv x)) [])
  (hX:GF prog 121 [.v (sv x)] [] (.tup [jr ts,.v (ii 0),.v (ii c)]) [])
   (hg:GF prog 123 [strs p.globals,strs r.globals] [] (.v (.bool true)) [])
  (ha:GF prog 124 [(.sl 2 (p.arrays.map fun s=>aL s)),(.sl 2 (r.arrays.map fun s=>aL s))] [] (.v (.bool true)) [])
  (hf:GF prog 125 [.sl 3 (p.fns.map ay),.sl 3 (r.fns.map ay),.v (.func (.func 126) #[] #[])] [] (.v (.bool true)) [])
  (hn:GF prog 127 [.sl 5 (p.nodes.map aB),.sl 5 (r.nodes.map aB),.v (.func (.func 128) #[] #[])] [] (.v (.bool b)) [])
  (hP:GF prog 122 [jr ts,.v (ii (x.length:Int))] [] (.tup [.agg (ao r),.v (ii 0),.v (ii 0)]) []) :
  GF prog 95 [.agg (ao p)] [] (.v (.bool b)) []:=by
 have hm:(p.nodes.map aB).length=p.nodes.length:=by simp
 have hd:decide ((800:Int) < ((p.nodes.map aB).length:Int))=false:=by rw [hm];simpa using by omega
 refine ai func95 ntmps95 ?_;refine D [] hB ?_;refine D [] hC ?_;refine D [] hL ?_;refine D [] hX ?_;refine D [] hP ?_;refine D [] hg ?_;refine D [] ha ?_;refine D [] hf ?_;refine D [] hn ?_;exact ak
theorem F5 (p r:Src) (l:List T) (x:ah) (ts:List Tok) (c:Int) (b1 b2 b3 b4:Bool) (h:p.nodes.length<=800) (hB:GF prog 114 [.agg (ao p)] [] (.tup [.sl 1 (cv l),.v (.bool true)]) [])
  (hC:GF prog 115 [.sl 1 (cv l),.v (.func (.func 116) #[] #[])] [] (.v (.bool false)) [])
  (hL:GF prog 118 [.agg (ao p),.sl 1 (cv l),.v (jx 119),.v (jx 120)] [] (.v (sv x)) [])
  (hX:GF prog 121 [.v (sv x)] [] (.tup [jr ts,.v (ii 0),.v (ii c)]) [])
  (hg:GF prog 123 [strs p.globals,strs r.globals] [] (.v (.bool b1)) [])
  (ha:GF prog 124 [(.sl 2 (p.arrays.map fun s=>aL s)),(.sl 2 (r.arrays.map fun s=>aL s))] [] (.v (.bool b2)) [])
  (hf:GF prog 125 [.sl 3 (p.fns.map ay),.sl 3 (r.fns.map ay),.v (.func (.func 126) #[] #[])] [] (.v (.bool b3)) [])
  (hn:GF prog 127 [.sl 5 (p.nodes.map aB),.sl 5 (r.nodes.map aB),.v (.func (.func 128) #[] #[])] [] (.v (.bool b4)) [])
  (hP:GF prog 122 [jr ts,.v (ii (x.length:Int))] [] (.tup [.agg (ao r),.v (ii 0),.v (ii 0)]) []) :
  GF prog 95 [.agg (ao p)] [] (.v (.bool (b1&&(b2&&(b3&&b4))))) []:=by
 cases b1 with
 | false=>exact K5 p r l x ts c h hB hC hL hX hg hP
 | true =>
  cases b2 with
  | false=>exact K6 p r l x ts c h hB hC hL hX hg ha hP
  | true =>
   cases b3 with
   | false=>exact K7 p r l x ts c h hB hC hL hX hg ha hf hP
   | true=>exact K8 p r l x ts c b4 h hB hC hL hX hg ha hf hn hP
end Go.Xg
set_option maxHeartbeats 1000000
namespace Go.Xg
open Go.RowKit Go.Xw Go.Proofs Tryz
open Go.Xp (Tok Nd T Ar aO aC eK)
open Go.Sp (Src)
open Go.Im
attribute [local irreducible] GW GL GO YG GC GA ba bc
theorem NF {st:PS} {f:Go.Sp.Fn} (h:f∈pS st):∃ x∈st.fns,f.params=x.2:=by
 unfold pS at h;obtain ⟨i,hi⟩:=List.getElem?_of_mem h;rw [getElem?_mapIdx] at hi
 cases hx:st.fns[i]? with
 | none=>rw [hx] at hi;cases hi
 | some x=>rw [hx] at hi;cases hi;exact ⟨x,bm hx,rfl⟩
theorem MF (p:Src) (hw:dk p<=1048576) (hn:kz p):GF prog 95 [.agg (ao p)] [] (.v (.bool (fI p))) []:=by
 obtain ⟨⟨s1,s2⟩,⟨s3,s4⟩,⟨s5,s6⟩,⟨s7,s8⟩⟩:=dN p
 have eS:∀ n∈p.nodes,n.kids.length<=1099511627776:=fun n h=>by have:=(s8 n h).2;omega
 have hB:=w8 p ag eS ag;unfold fI
 by_cases h8:p.nodes.length > 800
 ·rw [ae h8];exact F4 p h8
 rw [ab h8]
 cases hb:jE p.nodes p.fns 0 [] with
 | none=>exact Dr p ag eS ag hb
 | some y =>
  obtain ⟨l,e⟩:=y;simp only
  by_cases he:e≠p.nodes.length
  ·rw [ae he];exact IG p l e ag eS ag hb he
  rw [ab he]
  have he:e=p.nodes.length:=by simpa using he
  subst he;obtain ⟨l',I,F,h3,h4,h5⟩:=Dy _ _ _ _ _ hb;rw [nil_append] at I;subst I
  have hz:aC l=p.nodes.length:=by omega
  have aaT:=Ug hn F hz;have oy:=It F hz;have ow:=gB.len h3;have aae:=dD.num hn.nodes l 0 F
  by_cases hk:l.all fo=false
  ·rw [ae hk];exact F3 p l ag eS ag hb ag (fun t ht=>by have:=(oy t ht).2;omega) hk
  rw [ab hk]
  have hk:l.all fo=true:=by simpa using hk
  obtain ⟨ts,c,z,q,st,hr⟩:=reads (nP dh gq p l);rw [B0 hr];rw [hb] at hB;unfold Dx at hB;simp only at hB;rw [show ((p.nodes.length:Int)==(p.nodes.length:Int))=true by simp] at hB;have hC:=vP l ag (fun t ht=>by have:=(oy t ht).2;omega);rw [hk] at hC;have hL:=QU 119 120 dh gq RX p l ag ag ag ag ag hn.arrays (fun f h=>by have:=(s6 f h).2.1;omega)
   (fun t ht=>⟨fE.1 hk t ht,ku aae ht,by have:=(oy t ht).1;omega,by have:=(oy t ht).2;omega⟩)
  have hX:=Q3 _ _ ts c z ag hr.lex;have abc:=hr.len;have hP:=Ja ts (((nP dh gq p l).length:Nat):Int) q st ag ag (fun h=>by have:=(hr.ok h).2;omega) hr.read;have jK:=Ow _ _ _ _ _ _ (aH _) hr.read ⟨aX _,aX _,aX _,fun x h=>by cases h⟩;have eT:=hr.ok;clear hr hb;generalize hxg:nP dh gq p l=x at *
  by_cases hc:c≠0
  ·rw [ae hc];exact IH p l x ts c z ag hB hC hL hX (by simpa using hc)
  rw [ab hc]
  have hc:c=0:=by simpa using hc
  subst hc
  by_cases hq:q.code≠0
  ·rw [ae hq];unfold Kx at hP;rw [ab hq] at hP;exact Aj p l x ts z q.code q.at_ ag hB hC hL hX hP (by simpa using hq)
  rw [ab hq]
  have hq:q.code=0:=by simpa using hq
  obtain ⟨E9,Om⟩:=eT hq
  by_cases h9:aC st.trees > 800
  ·rw [ae h9];unfold Kx at hP;rw [ae hq,ae h9] at hP;exact Aj p l x ts z 10 0 ag hB hC hL hX hP aM
  rw [ab h9];rw [WX hq h9 E9.len] at hP;obtain ⟨m1,m2,m3,m4⟩:=jK
  have lE:(eK 0 st.trees).length<=800:=by rw [Go.Xp.zH];omega
  unfold same;refine F5 p (Tf st) l x ts z _ _ _ _ ag hB hC hL hX ?_ ?_ ?_ ?_ hP
  ·exact Jj _ _ ag (by show st.globals.length<=_;omega)
  ·exact Tu _ _ ag (by show st.arrays.length<=_;omega)
  ·refine ID p.fns (pS st) ag ?_ (fun f h=>by have:=(s6 f h).2.1;omega) (fun f h=>?_)
   ·unfold pS;rw [List.length_mapIdx];omega
   ·obtain ⟨y,hy,h6⟩:=NF h;rw [h6];have:=m4 y hy;omega
  ·exact IF p.nodes (eK 0 st.trees) ag ag eS (fun n h=>by have:=Bz st.trees 0 n h;omega)
theorem RV (n lo hi:Int):GF prog 65 [.v (ii n),.v (ii lo),.v (ii hi)] [] (.v (.bool (decide (lo<=n)&&decide (n<=hi)))) []:=by
 cases h:decide (lo<=n)
 all_goals
  refine ai func65 ntmps65 ?_;exact ak
end Go.Xg
set_option maxHeartbeats 2000000
namespace Go.Im
open Go.Xp Go.Sp
theorem CY (p:Src):(cL p).length=p.globals.length+p.arrays.length+p.fns.length:=by simp [cL,fb,iO];omega
end Go.Im
namespace Go.Xg
open GV (U)
open Go.RowKit Go.Xw Go.Proofs Tryz
open Go.Xp (Nd Ar)
open Go.Sp (Src)
open Go.Im
attribute [local irreducible] GW GL GO YG GC GA ba bc
theorem xH:∀ l:List ah,nf (cQ l)=true
 | []=>rfl
 | s::l=>by
  have:=xH l;unfold cQ at this |-;rw [List.map_cons,nf,this];rfl
theorem qm (l:List ah):(cQ l).length=l.length:=by simp [cQ]
theorem Li (p:Src) (hw:dk p<=1048576):GC prog 96 [.agg (ao p)] [] fun g Δ=>∃ a c,g=.v (.slice a (cL p).length c)/\Δ=[.vech 9 1 (cQ (cL p)) (.slice a (cL p).length c)]:=by
 obtain ⟨⟨a1,a2⟩,⟨b1,b2⟩,⟨c1,c2⟩,⟨d1,d2⟩⟩:=dN p
 have CF:(p.globals.map fun s=>[GV.v (sv s)]).length=p.globals.length:=by simp
 have iD:nf (p.globals.map fun s=>[GV.v (sv s)])=true:=xH p.globals;refine dT func96 ntmps96 ?_;refine GW.wk (Wk.q6 9 1) ?_;simp only [nil_append];refine G ?_;refine GL.Cm 0 rfl rfl rfl rfl iD (by refine ⟨?_,?_⟩;(· rw [CF];omega);(· rw [CF];omega)) ?_;intro a c;rw [CF];refine eh ?_;simp only [nil_append,length_nil,fk];refine G ?_;refine GW.range (p.arrays.map aL).length (fun k fr Γ=>∃ a c R n,fr=[U,.loc 1 0,U,.v (.slice a n c),U,U,U,U,U,U,U,U,.sl 2 (p.arrays.map aL),.v (ii ((p.arrays.map aL).length:Int)),.v (ii (k:Nat)),U,U,U,U,U,U,U,U,U,U,U,U,U,U,U,U,U,U,U,U,U,U,U]/\Γ=[.vech 9 1 R (.slice a n c),.box 34 (ao p)]/\R.length=n/\R=cQ (p.globals++(fb p).take k)) ?_ (by rw [bS];omega) ?_ ?_ ?_
 ·exact ⟨_,_,Wk.aK av,_,_,_,_,rfl,rfl,CF,by simp [cQ]⟩
 ·rintro k _ _ ⟨a,c,R,n,rfl,rfl,_⟩;exact dI
 ·rintro k _ _ hk ⟨a,c,R,n,rfl,rfl,jy,hR⟩
  have hk:k < p.arrays.length:=by simpa using hk
  have hx:p.arrays[k]?=some p.arrays[k]:=by simp [hk]
  have hr:=HX hx
  have bB:cQ (p.globals++(fb p).take (k+1))=R++[[.v (sv p.arrays[k].name)]]:=by
   have:(fb p)[k]?=some p.arrays[k].name:=by rw [fb,aV,hx];rfl
   rw [cq,this,hR];simp [cQ]
  have vm:n<=4194304:=by
   rw [<-jy,hR,qm,aZ,fV];omega
  clear hR;unfold aL at hr;generalize p.arrays[k]=x at *;refine G ?_;refine GL.lP 0 rfl rfl rfl rfl rfl rfl rfl rfl bf oK ?_;intro a2 c2;refine cm ?_;refine G ?_;exact ⟨rfl,rfl,_,_,(Wk.cut (n:=2) (aX _) rfl).trans (Wk.aK av),a2,c2,_,_,rfl,rfl,by simp [jy],bB.symm⟩
 ·rintro _ _ ⟨a,c,R,n,rfl,rfl,jy,hR⟩;rw [bS,show p.arrays.length=(fb p).length by simp [fb],cy] at hR;refine be ?_;refine G ?_;refine GW.range (p.fns.map ay).length (fun k fr Γ=>∃ a c R n,fr=[U,.loc 1 0,U,.v (.slice a n c),U,U,U,U,U,U,U,U,U,U,U,U,U,U,U,U,U,U,U,U,U,.sl 3 (p.fns.map ay),.v (ii ((p.fns.map ay).length:Int)),.v (ii (k:Nat)),U,U,U,U,U,U,U,U,U,U]/\Γ=[.vech 9 1 R (.slice a n c),.box 34 (ao p)]/\R.length=n/\R=cQ ((p.globals++fb p)++(iO p).take k)) ?_ (by rw [bS];omega) ?_ ?_ ?_
  ·exact ⟨_,_,Wk.aK av,_,_,_,_,rfl,rfl,jy,by rw [hR];simp⟩
  ·rintro k _ _ ⟨a,c,R,n,rfl,rfl,_⟩;exact dI
  ·rintro k _ _ hk ⟨a,c,R,n,rfl,rfl,jy,hR⟩
   have hk:k < p.fns.length:=by simpa using hk
   have hx:p.fns[k]?=some p.fns[k]:=by simp [hk]
   have hr:=C8 hx
   have bB:cQ ((p.globals++fb p)++(iO p).take (k+1))=R++[[.v (sv p.fns[k].name)]]:=by
    have:(iO p)[k]?=some p.fns[k].name:=by rw [iO,aV,hx];rfl
    rw [cq,this,hR];simp [cQ]
   have vm:n<=4194304:=by
    rw [<-jy,hR,qm,aZ,aZ,fV,fb,bS];omega
   clear hR;unfold ay at hr;generalize p.fns[k]=x at *;refine G ?_;refine GL.lP 0 rfl rfl rfl rfl rfl rfl rfl rfl bf oK ?_;intro a2 c2;refine cm ?_;refine G ?_;exact ⟨rfl,rfl,_,_,(Wk.cut (n:=2) (aX _) rfl).trans (Wk.aK av),a2,c2,_,_,rfl,rfl,by simp [jy],bB.symm⟩
  ·rintro _ _ ⟨a,c,R,n,rfl,rfl,jy,hR⟩;rw [bS,show p.fns.length=(iO p).length by simp [iO],cy] at hR
   have tf:n=(cL p).length:=by rw [<-jy,hR,qm];rfl
   subst tf;refine be ?_;refine G ?_;refine nS ?_;exact pk (n:=1) rfl dH rfl (aX _) rfl rfl ⟨a,c,rfl,by rw [hR];rfl⟩
end Go.Xg
set_option maxHeartbeats 4000000
namespace Go.Im
open Go.Xp Go.Sp
def x9 (l:List ah) (k:Nat):Int:=if (List.range k).any (kv l)=true then 21 else 0
theorem Q7 (l:List ah) (k:Nat):x9 l (k+1)=if kv l k=true then gT (x9 l k) 21 else x9 l k:=by
 unfold x9;rw [List.range_succ,List.any_append]
 cases h:(List.range k).any (kv l) with
 | true=>simp [gT]
 | false=>simp [gT]
theorem Ur (l:List ah):x9 l l.length=if en l=true then 21 else 0:=rfl
end Go.Im
namespace Go.Xg
open GV (U)
open Go.RowKit Go.Xw Go.Proofs Tryz
open Go.Xp (Nd T Ar aO aC)
open Go.Sp (Src)
open Go.Im
attribute [local irreducible] GW GL GO YG GC GA ba bc
theorem LX (p:Src) (hw:dk p<=1048576) :
  GF prog 74 [.loc 0 0] [.box 106 (cC p (.slice none 0 0) ⟨[],0,0⟩)] (.tup []) [.box 106 (cC p (.slice none 0 0) ⟨[],(if en (cL p)=true then 21 else 0),0⟩)]:=by
 obtain ⟨⟨a1,a2⟩,⟨b1,b2⟩,⟨c1,c2⟩,⟨d1,d2⟩⟩:=dN p
 have CF:(p.globals.map fun s=>[GV.v (sv s)]).length=p.globals.length:=by simp
 have iD:nf (p.globals.map fun s=>[GV.v (sv s)])=true:=xH p.globals;have tf:=CY p;rw [<-Ur]
 have yC:=fun k=>DF p (.slice none 0 0) (x9 (cL p) k) 21
 rw [show (0:Int)=x9 (cL p) 0 from rfl];unfold cC at yC |-;refine ai func74 ntmps74 ?_;refine oL ?_;refine G ?_;refine oL ?_;refine G ?_;refine GL.XC rfl rfl rfl rfl iD (by refine ⟨?_,?_⟩;(· rw [CF];omega);(· rw [CF];omega)) ?_;rw [CF];refine eh ?_;simp only [fk];refine G ?_;refine GW.range (p.arrays.map aL).length (fun k fr Γ=>∃ R n,fr=[.loc 0 0,U,.vec 1 0,.vec 2 n,U,U,U,U,U,U,U,U,U,U,U,U,U,U,U,U,U,U,.sl 2 (p.arrays.map aL),.v (ii ((p.arrays.map aL).length:Int)),.v (ii (k:Nat)),U,U,U,U,U,U,U,U,U,U,U,U,U,U,U,U,U,U,U,U,U,U,U,U,U,U,U,U,U,U,U,U,U,U,U,U,U,U,U,U,U,U,U,U,U]/\Γ=[.box 106 [strs p.globals,.sl 2 (p.arrays.map aL),.sl 3 (p.fns.map ay),.sl 5 (p.nodes.map aB),.v (.slice none 0 0),.v (ii (x9 (cL p) 0)),.v (ii 0)],.vec 9 1 0 [],.vec 9 1 0 R]/\R.length=n/\R=cQ (p.globals++(fb p).take k)) ?_ (by rw [bS];omega) ?_ ?_ ?_
 ·exact ⟨_,_,Wk.aK av,_,_,rfl,rfl,CF,by simp [cQ,chunk]⟩
 ·rintro k _ _ ⟨R,n,rfl,rfl,_⟩;exact dI
 ·rintro k _ _ hk ⟨R,n,rfl,rfl,jy,hR⟩
  have hk:k < p.arrays.length:=by simpa using hk
  have hx:p.arrays[k]?=some p.arrays[k]:=by simp [hk]
  have hr:=HX hx
  have bB:cQ (p.globals++(fb p).take (k+1))=R++[[.v (sv p.arrays[k].name)]]:=by
   have:(fb p)[k]?=some p.arrays[k].name:=by rw [fb,aV,hx];rfl
   rw [cq,this,hR];simp [cQ]
  have vm:n<=4194304:=by
   rw [<-jy,hR,qm,aZ,fV];omega
  have hb:n+1<=9223372036854775807/\(n+1) * 16<=140737488355328:=by omega
  clear hR;unfold aL at hr;generalize p.arrays[k]=x at *;refine G ?_;refine fG ?_;refine G ?_;exact ⟨rfl,rfl,_,_,(Wk.cut (n:=3) (fi rfl) rfl).trans (Wk.aK av),_,_,rfl,rfl,by simp [jy],bB.symm⟩
 ·rintro _ _ ⟨R,n,rfl,rfl,jy,hR⟩;rw [bS,show p.arrays.length=(fb p).length by simp [fb],cy] at hR;refine be ?_;refine G ?_;refine GW.range (p.fns.map ay).length (fun k fr Γ=>∃ R n,fr=[.loc 0 0,U,.vec 1 0,.vec 2 n,U,U,U,U,U,U,U,U,U,U,U,U,U,U,U,U,U,U,U,U,U,U,U,U,U,U,U,U,U,U,U,U,U,U,.sl 3 (p.fns.map ay),.v (ii ((p.fns.map ay).length:Int)),.v (ii (k:Nat)),U,U,U,U,U,U,U,U,U,U,U,U,U,U,U,U,U,U,U,U,U,U,U,U,U,U,U,U,U]/\Γ=[.box 106 [strs p.globals,.sl 2 (p.arrays.map aL),.sl 3 (p.fns.map ay),.sl 5 (p.nodes.map aB),.v (.slice none 0 0),.v (ii (x9 (cL p) 0)),.v (ii 0)],.vec 9 1 0 [],.vec 9 1 0 R]/\R.length=n/\R=cQ ((p.globals++fb p)++(iO p).take k)) ?_ (by rw [bS];omega) ?_ ?_ ?_
  ·exact ⟨_,_,Wk.aK av,_,_,rfl,rfl,jy,by rw [hR];simp⟩
  ·rintro k _ _ ⟨R,n,rfl,rfl,_⟩;exact dI
  ·rintro k _ _ hk ⟨R,n,rfl,rfl,jy,hR⟩
   have hk:k < p.fns.length:=by simpa using hk
   have hx:p.fns[k]?=some p.fns[k]:=by simp [hk]
   have hr:=C8 hx
   have bB:cQ ((p.globals++fb p)++(iO p).take (k+1))=R++[[.v (sv p.fns[k].name)]]:=by
    have:(iO p)[k]?=some p.fns[k].name:=by rw [iO,aV,hx];rfl
    rw [cq,this,hR];simp [cQ]
   have vm:n<=4194304:=by
    rw [<-jy,hR,qm,aZ,aZ,fV,fb,bS];omega
   have hb:n+1<=9223372036854775807/\(n+1) * 16<=140737488355328:=by omega
   clear hR;unfold ay at hr;generalize p.fns[k]=x at *;refine G ?_;refine fG ?_;refine G ?_;exact ⟨rfl,rfl,_,_,(Wk.cut (n:=3) (fi rfl) rfl).trans (Wk.aK av),_,_,rfl,rfl,by simp [jy],bB.symm⟩
  ·rintro _ _ ⟨R,n,rfl,rfl,jy,hR⟩;rw [bS,show p.fns.length=(iO p).length by simp [iO],cy] at hR;have hR:R=cQ (cL p):=hR
   have wg:R.length=(cL p).length:=by rw [hR,qm]
   have V4:n=R.length:=jy.symm;subst V4;refine be ?_;refine GW.wk (Wk.ki (t:=3) rfl rfl rfl rfl) ?_;refine GW.wk (Wk.cut (n:=2) (fi rfl) rfl) ?_;refine GW.JJ (cl:=[.loc 0 0,U,.vec 1 0,.sl 1 R,U,U,U,U,U,U,U,U,U,U,U,U,U,U,U,U,U,U,U,U,U,U,U,U,U,U,U,U,U,U,U,U,U,U,U,U,U,U,U,U,U,U,U,U,U,U,U,U,U,U,U,U,U,U,U,U,U,U,U,U,U,U,U,U,U,U]) (aS:=[.box 106 [strs p.globals,.sl 2 (p.arrays.map aL),.sl 3 (p.fns.map ay),.sl 5 (p.nodes.map aB),.v (.slice none 0 0),.v (ii (x9 (cL p) 0)),.v (ii 0)],.vec 9 1 0 []]) av rfl ?_;refine G ?_;refine GW.range R.length (fun k fr Γ=>∃ S n fz,fr=[.loc 0 0,U,.vec 1 n,U,U,U,U,U,U,U,U,U,U,U,U,U,U,U,U,U,U,U,U,U,U,U,U,U,U,U,U,U,U,U,U,U,U,U,U,U,U,U,U,U,U,U,U,U,U,U,.sl 1 R,.v (ii (R.length:Int)),.v (ii (k:Nat)),U,U,U,U,U,U,U,U,U,U,U,U,U,U,U,U,U]/\Γ=[.box 106 [strs p.globals,.sl 2 (p.arrays.map aL),.sl 3 (p.fns.map ay),.sl 5 (p.nodes.map aB),.v (.slice none 0 0),.v (ii (x9 (cL p) k)),.v (ii 0)],.vec 9 1 fz S]/\S.length=n/\S=cQ ((cL p).take k)) ?_ ag ?_ ?_ ?_
   ·exact ⟨_,_,Wk.aK av,_,_,_,rfl,rfl,rfl,by simp [cQ]⟩
   ·rintro k _ _ ⟨S,n,fz,rfl,rfl,_⟩;exact dI
   ·rintro k _ _ hk ⟨S,n,fz,rfl,rfl,lC,hS⟩;rw [wg] at hk;obtain ⟨x,hx⟩:∃ x,(cL p)[k]?=some x:=⟨(cL p)[k],by simp [hk]⟩
    have SM:R[k]?=some [.v (sv x)]:=by rw [hR,cQ,aV,hx];rfl
    have bB:cQ ((cL p).take (k+1))=S++[[.v (sv x)]]:=by rw [cq,hx,hS];simp [cQ]
    have vm:n<=8388608:=by rw [<-lC,hS,qm,fV];omega
    have hb:n+1<=9223372036854775807/\(n+1) * 16<=140737488355328:=by omega
    have hd:kv (cL p) k=(mY x || ((cL p).take k).contains x):=by unfold kv;rw [hx]
    have NU:=LY x
    have hL:GF prog 90 [.sl 1 S,.v (sv x)] [] (.v (.bool (((cL p).take k).contains x))) []:=by
     rw [hS];exact jT ((cL p).take k) x (by rw [fV];omega)
    have hF:=yC k;rw [Q7];clear hS hR wg;generalize x9 (cL p) k=cd at *;generalize kv (cL p) k=bn at *
    cases I:mY x with
    | true =>
     rw [I] at NU hd;subst hd;rw [ae (by simp)];refine G ?_;refine D [] NU ?_;refine D [0] hF ?_;refine fG ?_;refine G ?_;exact ⟨rfl,rfl,_,_,Wk.aK av,_,_,_,rfl,rfl,by simp [lC],bB.symm⟩
    | false =>
     rw [I] at NU hd
     cases F:((cL p).take k).contains x with
     | true =>
      rw [F] at hL hd;subst hd;rw [ae (by simp)];refine G ?_;refine D [] NU ?_;refine GL.wk (Wk.ki (t:=59) rfl rfl rfl lC) ?_;refine cm ?_;refine G ?_;refine D [] hL ?_;refine D [0] hF ?_;refine fG ?_;refine G ?_;exact ⟨rfl,rfl,_,_,Wk.aK av,_,_,_,rfl,rfl,by simp [lC],bB.symm⟩
     | false =>
      rw [F] at hL hd;subst hd;rw [ab (by simp)];refine G ?_;refine D [] NU ?_;refine GL.wk (Wk.ki (t:=59) rfl rfl rfl lC) ?_;refine cm ?_;refine G ?_;refine D [] hL ?_;refine fG ?_;refine G ?_;exact ⟨rfl,rfl,_,_,Wk.aK av,_,_,_,rfl,rfl,by simp [lC],bB.symm⟩
   ·rintro _ _ ⟨S,n,fz,rfl,rfl,lC,hS⟩;rw [wg];exact gL
theorem Ue (p:Src) (c z:Int) (h:GF prog 55 [.agg (ao p)] [] (.tup [.v (ii c),.v (ii z)]) []):GF prog 34 [.agg (ao p)] [] (.v (.bool (c==0))) []:=by
 refine ai func34 ntmps34 ?_;refine D [] h ?_;exact ak
end Go.Xg
namespace Go.Im
open Go.Xp Go.Sp
def gI (p:Src) (fn:Int):Bool:=(cU p&&decide ((0:Int)<=fn))&&decide (fn < (p.fns.length:Int))
end Go.Im
namespace Go.Xg
open Go.RowKit Go.Xw Go.Proofs Tryz
open Go.Xp (Nd T Ar aO aC bZ)
open Go.Sp (Src)
open Go.Im
attribute [local irreducible] GW GL GO YG GC GA ba bc
theorem KM {l:List T} {t:T} (h:t∈l):aO t<=aC l:=by
 obtain ⟨k,hk⟩:=List.getElem?_of_mem h;have:=iK hk;omega
theorem G3 {p:Src} (h:fI p=false):cU p=false:=by unfold cU;rw [h];rfl
theorem ET {p:Src} {l:List T} (h:fI p=true) (hl:gR p l):cU p=((ED p l).1==0):=by
 unfold cU;rw [h,hl.EA];simp only [Bool.true_and];rfl
theorem T8 (p:Src) (hw:dk p<=1048576) (hn:kz p):GF prog 66 [.agg (ao p)] [] (.v (.bool (cU p))) []:=by
 obtain ⟨⟨a1,a2⟩,⟨b1,b2⟩,⟨c1,c2⟩,⟨d1,d2⟩⟩:=dN p;have hF:=MF p hw hn
 cases hf:fI p with
 | false =>
  rw [hf] at hF;have:=NQ p _ _ (MA p hF);rw [G3 hf];exact this
 | true =>
  rw [hf] at hF;obtain ⟨l,hl⟩:=vg hf;have hlen:=gB.len hl.fns;have tf:=CY p;have jX:=Ey hl
  have hc:=K4 p l (cL p) ag hlen ag hF (Li p hw) (Py p ag ag fun a ha=>⟨(jX a ha).1,by have:=(jX a ha).2;omega⟩) fun i f t I F=>by
   obtain ⟨e1,_⟩:=gB.at_ hl.fns i f t I F;have h7:=dD.ix l 0 i _ hl.st F;rw [fk] at e1 h7
   have hb:f.body.toNat=aC (l.take i):=by rw [e1,gA]
   have hz:=KM (bm F);have:=hl.len;have:=ND p i f t ag (fun n h=>by have:=(d2 n h).2;omega) ag ag ag I (by have:=(c2 f (bm I)).2.1;omega) ag (by rw [hb];exact h7) ag;rw [hb] at this;exact this
  rw [ET hf hl];exact NQ p _ _ hc
theorem PZ (p:Src) (hw:dk p<=1048576):∃ c z,GF prog 55 [.agg (ao p)] [] (.tup [.v (ii c),.v (ii z)]) []/\(c==0)=cU p:=by
 obtain ⟨⟨a1,a2⟩,⟨b1,b2⟩,⟨c1,c2⟩,⟨d1,d2⟩⟩:=dN p;have hF:=ME p hw
 cases hf:fI p with
 | false =>
  rw [hf] at hF;exact ⟨_,_,Mz p hF,by rw [G3 hf];rfl⟩
 | true =>
  rw [hf] at hF;obtain ⟨l,hl⟩:=vg hf;have hlen:=gB.len hl.fns;have jX:=Ey hl
  have Wl:∀ a∈p.arrays,0<=a.size/\a.size<=2147483648:=fun a ha=>⟨(jX a ha).1,by have:=(jX a ha).2;omega⟩
  obtain ⟨ls,hm⟩:=hl.Lu
  have hS:=fun k=>Hy p (.slice none 0 0) k ag Wl fun h=>FN p (.slice none 0 0) k ag ag Wl h
  have hle:=hl.len
  have hc:=K3 p l _ _ hlen ag ag ag (fun f h=>by have:=(c2 f h).2.1;omega) (fun t ht=>by have:=KM ht;omega) hF (LX p hw) (hS _) fun i f t I F=>by
   obtain ⟨e1,_⟩:=gB.at_ hl.fns i f t I F;have h7:=dD.ix l 0 i _ hl.st F;rw [fk] at e1 h7;rw [e1];exact Dg p (fun n h=>by have:=(d2 n h).2;omega) _ _ t ((uX _).1 t _ h7 (aH _))
  have hs:=Ve (p:=p) (l:=l) (fun a ha=>(jX a ha).1) (fun t ht=>by obtain ⟨i,hi⟩:=List.getElem?_of_mem ht;exact (hm.wf hi).1)
  have e:((M8 p l).code==0)=cU p:=by
   rw [ET hf hl]
   by_cases h0:(ED p l).1=0
   ·rw [h0,hs.1 h0]
   ·have I:(M8 p l).code≠0:=fun e=>h0 (hs.2 e)
    rw [show ((ED p l).1==0)=false by simpa using h0,show ((M8 p l).code==0)=false by simpa using I]
  exact ⟨_,_,hc,e⟩
theorem zL (p:Src) (hw:dk p<=1048576):GF prog 34 [.agg (ao p)] [] (.v (.bool (cU p))) []:=by
 obtain ⟨c,z,h,e⟩:=PZ p hw;rw [<-e];exact Ue p c z h
theorem Qv (p:Src) (fn:Int) (hw:dk p<=1048576) (hn:kz p):GF prog 49 [.agg (ao p),.v (ii fn)] [] (.v (.bool (gI p fn))) []:=by
 obtain ⟨⟨a1,a2⟩,⟨b1,b2⟩,⟨c1,c2⟩,⟨d1,d2⟩⟩:=dN p;have h:=Uc p fn _ _ ag (T8 p hw hn) (RV fn 0 _)
 have e:gI p fn=((decide ((0:Int)<=fn)&&decide (fn<=(((p.fns.map ay).length:Int) - 1)))&&cU p):=by
  unfold gI;rw [show decide (fn<=(((p.fns.map ay).length:Int) - 1))=decide (fn < (p.fns.length:Int)) by rw [bS];apply decide_eq_decide.2;omega]
  cases cU p <;> cases decide ((0:Int)<=fn) <;> cases decide (fn < (p.fns.length:Int)) <;> rfl
 rw [e];exact h
end Go.Xg
namespace Go.Im
open Go.Xp Go.Sp
end Go.Im
namespace Go.Xg
open Go.RowKit Go.Xw Go.Proofs Tryz
open Go.Xp (Nd T Ar aO aC bZ)
open Go.Sp (Src)
open Go.Im
attribute [local irreducible] GW GL GO YG GC GA ba bc
theorem Xb (p:Src) (hk:∀ n∈p.nodes,n.kids.length<=1000000000000) (f:Go.Sp.Fn) (t:T) (hb:0<=f.body) (bI:dV p.nodes f.body.toNat t):GF prog 45 [.agg (ao p),.v (ii f.body)] [] (.agg (cT t)) []:=by
 have:=Dg p hk _ _ t ((uX _).1 t _ bI (aH _))
 rwa [Int.toNat_of_nonneg hb] at this
end Go.Xg
namespace Go.Im
open Go.Xp Go.Sp
theorem Good.EA {p:Src} {l:List T} (h:Good p l):jE p.nodes p.fns 0 []=some (l,p.nodes.length):=h.st.EA
structure fq (p:Src) (l:List T) (i:Nat) (f:Go.Sp.Fn) (t:T):Prop where
 good:Good p l
 gf:p.fns[i]?=some f
 gt:l[i]?=some t
 ok:za p t f.params
 wf:fT t
 z:zT t
 st:dV p.nodes f.body.toNat t
 body:0<=f.body
 sz:aO t<=800
theorem Good.fn {p:Src} {l:List T} (h:Good p l) {i:Nat} {f:Go.Sp.Fn} {t:T} (e1:p.fns[i]?=some f) (e2:l[i]?=some t):fq p l i f t:=by
 obtain ⟨a1,a2,a3,a4,a5⟩:=h.at_ _ _ _ e1 e2;refine ⟨h,e1,e2,a1,a2,a3,a4,a5,?_⟩;have:=h.st.few;have:=a4.le;omega
theorem tN {p:Src} {fn:Int} (h:gI p fn=true):∃ (i:Nat) (l:List T) (f:Go.Sp.Fn) (t:T),fn=(i:Int)/\fq p l i f t:=by
 unfold gI at h;simp only [aE,decide_eq_true_eq] at h;obtain ⟨⟨I,F⟩,h3⟩:=h;obtain ⟨l,hl⟩:=T9 I;have hlen:=hl.len
 have hi:fn.toNat < p.fns.length:=by omega
 have e1:p.fns[fn.toNat]?=some p.fns[fn.toNat]:=eF _;have e2:l[fn.toNat]?=some (l[fn.toNat]'(by omega)):=eF _;obtain ⟨a1,a2,a3,a4,a5⟩:=hl.at_ _ _ _ e1 e2;refine ⟨fn.toNat,l,_,_,by omega,hl,e1,e2,a1,a2,a3,a4,a5,?_⟩;have:=hl.st.few;have:=a4.le;omega
end Go.Im
namespace Go.Xg
open Go.RowKit Go.Xw Go.Proofs
open Go.Xp (Nd T Ar aO aC bZ)
open Go.Sp (Src)
open Go.Im
attribute [local irreducible] GW GL GO YG GC GA ba bc
end Go.Xg
namespace Go.Im
open Go.Xp Go.Sp
theorem TF (p:Src) (s:List Int) (a:Nat) (t:T) (ls:List ah):(fX p s a t ls).length<=s.length+1:=by
 unfold fX;rw [aZ];have:=DC p t.n;omega
end Go.Im
namespace Go.Xg
open Go.RowKit Go.Xw Go.Proofs Tryz
open Go.Xp (Nd T Ar aO aC)
open Go.Sp (Src)
open Go.Im
attribute [local irreducible] GW GL GO YG GC GA ba bc
theorem US (p:Src) (a:Nat) (n:Nd) (l:List T) (ls:List ah) (s:List Int) (E1:TypeId) (eb:Option Addr) (ec:Nat) (ad:Option Addr) (cp:Nat) (hn:p.nodes[a]?=some n) (fL:p.fns.length<=1099511627776) (hs:s.length<=1048576000) :
  GC prog 103 [.v (ii (a:Nat)),.v (.slice ad ls.length cp),.box (ao p) 0,.loc 0 0] [.box E1 [.v (.slice eb s.length ec)],.vech 3 1 (bC s) (.slice eb s.length ec),.vech 9 1 (cQ ls) (.slice ad ls.length cp)] fun g Δ=>g=.tup []/\∃ xU xV,
   Δ=[.box E1 [.v (.slice xU (fX p s a (.mk n l) ls).length xV)],.vech 3 1 (bC (fX p s a (.mk n l) ls)) (.slice xU (fX p s a (.mk n l) ls).length xV),.vech 9 1 (cQ ls) (.slice ad ls.length cp)]:=by
 have hr:=ia hn;have rD:=ew s;have hA:=yw p n.s fL;have e0:cr (fun x:Go.Sp.Fn=>x.name==n.s) p.fns=bE p n.s:=rfl;rw [e0] at hA;have e:fX p s a (.mk n l) ls=s++(if n.kind=4/\0<=bE p n.s then [bE p n.s] else []):=rfl;rw [e];unfold aB at hr;generalize bE p n.s=z at *
 cases I:(n.kind==4) with
 | false =>
  rw [ab (fun h=>by rw [h.1] at I;cases I),iy];refine ai func103 ntmps103 ?_;refine aJ (aD 0 7 (.a 7 (.q 8 .nil))) ?_;refine au ?_;refine az [] hA ?_;refine G ?_;refine cZ ?_;exact ⟨rfl,eb,ec,rfl⟩
 | true =>
  cases F:decide ((0:Int)<=z) with
  | false =>
   rw [ab (fun h=>by have:=of_decide_eq_false F;exact this h.2),iy];refine ai func103 ntmps103 ?_;refine aJ (aD 0 7 (.a 7 (.q 8 .nil))) ?_;refine au ?_;refine az [] hA ?_;refine G ?_;refine cZ ?_;exact ⟨rfl,eb,ec,rfl⟩
  | true =>
   rw [ae ⟨by simpa using I,by simpa using F⟩];refine ai func103 ntmps103 ?_;refine aJ (aD 0 7 (.a 7 (.q 8 .nil))) ?_;refine au ?_;refine az [] hA ?_;refine G ?_;refine GL.lP 1 rfl rfl rfl rfl rfl rfl rfl rfl bf oK ?_;intro su sx;refine cm ?_;refine G ?_;refine cZ ?_;exact ⟨rfl,su,sx,by simp [bC]⟩
end Go.Xg
namespace Go.Xg
open GV (U)
open Go.RowKit Go.Xw Go.Proofs Tryz
open Go.Xp (Nd T Ar aO aC da)
open Go.Sp (Src)
open Go.Im
attribute [local irreducible] GW GL GO YG GC GA ba bc
def Iq (p:Src):GV:=.fn (.func 103) [] [.box (ao p) 0,.loc 0 0]
def Th (p:Src):GV:=.fn (.func 84) [] [.loc 2 0,.loc 3 0,.box (ao p) 0,.loc 4 0]
def Tb (E1:TypeId) (s:List Int) (eb:Option Addr) (ec:Nat):List Ob:=[.box E1 [.v (.slice eb s.length ec)],.vech 3 1 (bC s) (.slice eb s.length ec)]
def Fu (p:Src) (E1 E2 E3 E4:TypeId) (s:List Int) (ls:List ah) (ad:Option Addr) (cp:Nat) (eb:Option Addr) (ec:Nat):List Ob :=
 [.box E1 [.v (.slice eb s.length ec)],.vech 3 1 (bC s) (.slice eb s.length ec),.box E2 [Iq p],.box E3 [.v (.slice ad ls.length cp)],.box E4 [Th p],.vech 9 1 (cQ ls) (.slice ad ls.length cp)]
theorem RQ (p:Src) (E1 E2 E3 E4:TypeId) (hp:p.nodes.length<=1048576) (eS:∀ n∈p.nodes,n.kids.length<=1099511627776) (fL:p.fns.length<=1099511627776):∀ (N:Nat) (t:T),aO t<=N->∀ (a:Nat) (s:List Int) (ls:List ah) (ad:Option Addr) (cp:Nat) (eb:Option Addr) (ec:Nat),dV p.nodes a t->ls.length+aO t<=8388608->s.length+aO t<=8388608 ->
  GC prog 84 [.v (ii (a:Nat)),.loc 2 0,.loc 3 0,.box (ao p) 0,.loc 4 0] (Fu p E1 E2 E3 E4 s ls ad cp eb ec) fun g Δ=>g=.tup []/\∃ np nq xU xV,Δ=Fu p E1 E2 E3 E4 (gS (fX p) t a s ls).1 (gS (fX p) t a s ls).2 np nq xU xV:=by
 intro N
 induction N with
 | zero=>intro t h;have:=jq t;omega
 | succ N ih =>
 intro t hN a s ls ad cp eb ec bI mu rE
 cases t with
 | mk n l =>
 rw [Go.Xp.aO] at hN mu rE;have DO:=bI;rw [dV] at bI;obtain ⟨hn,hk,rD⟩:=bI;rw [gS];have hr:=ia hn;have ov:=eS n (bm hn);have ht:=US p a n l ls s E1 eb ec ad cp hn fL ag;have aa8:((fX p) s a (.mk n l) ls).length<=s.length+1:=TF _ _ _ _ _;generalize gk:(fX p) s a (.mk n l) ls=s1 at *
 have me:n.kids.length=l.length:=by rw [hk,da]
 unfold aB at hr;unfold Fu Iq Th;refine ai func84 ntmps84 ?_;refine GL.sf [0,1,5] ht rfl rfl rfl (by repeat (first | exact trivial | refine ⟨rfl,?_⟩)) ?_;rintro _ _ ⟨rfl,eb,ec,rfl⟩;refine dG ?_;refine G ?_;refine GW.range (n.kids.map fun i=>[GV.v (ii i)]).length (fun k fr Γ=>∃ np nq xU xV,fr=[.v (ii (a:Nat)),.loc 2 0,.loc 3 0,.box (ao p) 0,.loc 4 0,U,U,U,U,U,U,U,U,U,U,U,U,ints n.kids,.v (ii ((n.kids.map fun i=>[GV.v (ii i)]).length:Int)),.v (ii (k:Nat)),U,U,U,U,U,U,U,U,U,U,U,U,U,U,U,U,U,U,U,U,U,U,U]/\Γ=Fu p E1 E2 E3 E4 (dw (fX p) (l.take k) (a+1) s1 ls).1 (dw (fX p) (l.take k) (a+1) s1 ls).2 np nq xU xV) ?_ (by rw [bS];omega) ?_ ?_ ?_
 ·exact ⟨_,_,Wk.aK av,ad,cp,eb,ec,rfl,rfl⟩
 ·rintro k _ _ ⟨ad,cp,eb,ec,rfl,rfl⟩;exact dI
 ·rintro k _ _ ar ⟨ad,cp,eb,ec,rfl,rfl⟩;rw [bS,me] at ar;obtain ⟨u,hu⟩:∃ u,l[k]?=some u:=⟨l[k],by simp [ar]⟩;have mr:=sI (n:=a+1) hu;rw [<-hk] at mr;have uD:=iR mr;have cB:=iK hu;have Of:dV p.nodes (a+1+aC (l.take k)) u:=dD.ix l (a+1) k u rD hu
  have hlen:(dw (fX p) (l.take k) (a+1) s1 ls).2.length<=ls.length+aC (l.take k):=by
   rw [od,aZ];have:=qG (l.take k);omega
  have LD:(dw (fX p) (l.take k) (a+1) s1 ls).1.length<=s1.length+aC (l.take k):=by
   rw [Gu,aZ];have:=Gi p (l.take k);omega
  rw [A5 _ hu];generalize (dw (fX p) (l.take k) (a+1) s1 ls).1=s2 at *;generalize (dw (fX p) (l.take k) (a+1) s1 ls).2=ls2 at *;have hv:=ih u ag (a+1+aC (l.take k)) s2 ls2 ad cp eb ec Of ag ag;unfold Fu Iq Th at hv |-;refine G ?_;refine GL.sf [0,1,2,3,4,5] hv rfl rfl rfl (by repeat (first | exact trivial | refine ⟨rfl,?_⟩)) ?_;rintro _ _ ⟨rfl,np,nq,xU,xV,rfl⟩;refine dG ?_;refine G ?_;exact ⟨rfl,rfl,_,_,Wk.aK av,np,nq,xU,xV,rfl,rfl⟩
 ·rintro _ _ ⟨ad,cp,eb,ec,rfl,rfl⟩;rw [bS,me,cy]
  have hlen:(dw (fX p) l (a+1) s1 ls).2.length<=ls.length+aC l:=by
   rw [od,aZ];have:=qG l;omega
  generalize (dw (fX p) l (a+1) s1 ls).1=s2 at *;generalize (dw (fX p) l (a+1) s1 ls).2=ls2 at *;have Oa:(cQ ls2).length=ls2.length:=tV ls2;unfold Fu Iq Th;refine be ?_
  cases hv:(n.kind==13) with
  | false =>
   rw [ab (by simpa using hv)];refine G ?_;refine cZ ?_;exact ⟨rfl,ad,cp,eb,ec,rfl⟩
  | true =>
   rw [ae (by simpa using hv)];refine G ?_;refine aJ (aD 0 7 (.a 7 (.a 8 (.a 9 .nil)))) ?_;refine au ?_;refine eZ ?_;refine au ?_;refine OA rfl rfl (GL.qL 5 (news:=[[.v (sv n.s)]]) rfl rfl rfl bf rfl rfl (by refine ⟨?_,?_⟩;(· show _+1<=_;omega);(· show (_+1) * _<=_;omega)) ?_);intro su sx;refine dE ?_;refine bj ?_;refine cZ ?_;exact ⟨rfl,su,sx,eb,ec,by simp [cQ]⟩
theorem TL (p:Src) (E1:TypeId) (i:Nat) (f:Go.Sp.Fn) (t:T) (s:List Int) (eb:Option Addr) (ec:Nat) (hp:p.nodes.length<=1048576) (eS:∀ n∈p.nodes,n.kids.length<=1099511627776) (fL:p.fns.length<=1099511627776)
  (hf:p.fns[i]?=some f) (xk:f.params.length<=1048576) (hb:0<=f.body) (bI:dV p.nodes f.body.toNat t) (cB:aO t<=1048576) (hs:s.length+aO t<=8388608) :
  GC prog 69 [.agg (ao p),.v (ii (i:Nat)),Iq p] (Tb E1 s eb ec) fun g Δ=>g=.tup []/\∃ xU xV,Δ=Tb E1 (gS (fX p) t f.body.toNat s f.params).1 xU xV:=by
 have hr:(p.fns.map ay)[i]?=some (ay f):=by rw [aV,hf];rfl
 have cX:(f.params.map fun s=>[GV.v (sv s)]).length=f.params.length:=by simp
 have iD:=BX f.params;obtain ⟨b,qy⟩:∃ b:Nat,f.body=(b:Int):=⟨f.body.toNat,by omega⟩;rw [qy,gA] at bI |-;unfold ay at hr;rw [qy] at hr;unfold Iq Tb;refine dT func69 ntmps69 ?_;refine jv ?_;refine GL.wk (Wk.freeze (i:=2) rfl rfl rfl (aH _)) ?_;refine GN (by simp only [om,nM];rfl) ?_;refine GL.wk (Wk.aK (cl:=[U,.v (ii (i:Nat)),U,.box (ao p) 0,U,.loc 3 0,U,U,U,U,U,U,U,strs f.params,U,U,U,U,U,U,U,U,U,U]) av) ?_;refine GL.wk (Wk.q6 9 1) ?_;refine GL.Cm 4 rfl rfl rfl rfl iD (by refine ⟨?_,?_⟩;(· rw [cX];omega);(· rw [cX];omega)) ?_;intro ad cp;rw [cX];refine eh ?_;simp only [nil_append,length_nil,fk];refine G ?_;refine GW.JJ (cl:=[U,.v (ii (i:Nat)),U,.box (ao p) 0,U,.loc 3 0,.loc 5 0,.loc 6 0,U,U,U,U,U,U,U,U,U,U,U,U,U,U,U,U]) (aS:=[.box E1 [.v (.slice eb s.length ec)],.vech 3 1 (bC s) (.slice eb s.length ec),.gone,.box _ [.fn (.func 103) [] [.box (ao p) 0,.loc 0 0]],.vech 9 1 (cQ f.params) (.slice ad f.params.length cp),.box _ [.v (.slice ad f.params.length cp)],.box _ [.fn (.func 84) [] [.loc 3 0,.loc 5 0,.box (ao p) 0,.loc 6 0]]]) av rfl ?_;refine aJ (aD 0 7 (.a 7 .nil)) ?_;refine au ?_;have hv:=RQ p E1;refine OA rfl rfl (GL.sf [0,1,3,5,6,4] (hv _ _ _ hp eS fL _ t (aH _) b s f.params ad cp eb ec bI ag hs) rfl rfl rfl (by repeat (first | exact trivial | refine ⟨rfl,?_⟩)) ?_);rintro _ _ ⟨rfl,np,nq,xU,xV,rfl⟩;refine ⟨by simp [Fu],?_⟩;unfold Fu;refine dE ?_;refine bj ?_;refine cZ ?_;exact ⟨rfl,xU,xV,rfl⟩
end Go.Xg
namespace Go.Im
open Go.Xp Go.Sp
def jF (p:Src) (l:List T) (x:Int):List Int:=match l[x.toNat]? with | some t=>bY p t | none=>[]
theorem vY (p:Src) (l:List T) (x:Int):∀ y∈jF p l x,0<=y/\y < (p.fns.length:Int):=by
 intro y hy;unfold jF at hy;split at hy
 ·exact nG p _ y hy
 ·simp at hy
structure Trail (p:Src) (L:List Int):Prop where
 nodup:L.Nodup
 rng:∀ y∈L,0<=y/\y < (p.fns.length:Int)
theorem Trail.len {p:Src} {L:List Int} (h:Trail p L):L.length<=p.fns.length:=y9 h.nodup h.rng
theorem Trail.add {p:Src} {L ks:List Int} (h:Trail p L) (hk:∀ y∈ks,0<=y/\y < (p.fns.length:Int)):Trail p (dP L ks) :=
 ⟨tl h.nodup,fun y hy=>by
  rcases jm.1 hy with I | I
  ·exact h.rng y I
  ·exact hk y I⟩
def lU (p:Src) (l:List T) (L:List Int):List Int:=mo (jF p l) (p.fns.length+1) 0 L
theorem Gd {cs:Int->List Int} {f i:Nat} {L:List Int} {x:Int} (h:L[i]?=some x):mo cs (f+1) i L=mo cs f (i+1) (dP L (cs x)):=by rw [mo,h]
theorem Ge {cs:Int->List Int} {f i:Nat} {L:List Int} (h:L.length<=i):mo cs f i L=L:=by
 cases f with
 | zero=>rfl
 | succ f=>rw [mo,List.getElem?_eq_none h]
theorem zz {p:Src} {l:List T}:∀ (f i:Nat) (L:List Int),Trail p L->Trail p (mo (jF p l) f i L)
 | 0,i,L,h=>h
 | f+1,i,L,h=>by
  rw [mo];split
  ·exact h
  ·exact zz f (i+1) _ (h.add (vY p l _))
end Go.Im
namespace Go.Xg
open GV (U)
open Go.RowKit Go.Xw Go.Proofs Tryz
open Go.Xp (Nd T Ar aO aC)
open Go.Sp (Src)
open Go.Im
attribute [local irreducible] GW GL GO YG GC GA ba bc
theorem Ra (l:List Int):nf (l.map fun i=>[GV.v (ii i)])=true:=by
 induction l with
 | nil=>rfl
 | cons s l ih=>rw [List.map_cons,nf,ih];rfl
theorem Jx (p:Src) (hw:dk p<=1048576) {l:List T} {i:Nat} {f:Go.Sp.Fn} {t:T} (h:fq p l i f t) :
  GF prog 81 [.agg (ao p),.v (ii (i:Nat))] [] (ints (bY p t)) []:=by
 obtain ⟨⟨a1,a2⟩,⟨b1,b2⟩,⟨c1,c2⟩,⟨d1,d2⟩⟩:=dN p;have cB:=h.sz;have vj:=Nb p _ t (aH _)
 have hE:=fun eb ec=>TL p 46 i f t [] eb ec ag (fun n hn=>by have:=(d2 n hn).2;omega) ag h.gf (by have:=(c2 f (bm h.gf)).2.1;omega) h.body h.st ag (by show 0+_<=_;omega)
 rw [Se,nil_append] at hE;obtain ⟨e1,e2⟩:=Vi (iV p t)
 have hS:=fun a c=>MM (iV p t) 3 a c ag
 have hC:=fun a c=>MB (gx (iV p t)) 3 a c (by rw [nh];omega) e2
 rw [e1] at hC;rw [nh] at hC;unfold Iq Tb at hE;unfold bY;generalize pO (iV p t)=rr at *;generalize gx (iV p t)=ss at *;refine dT func81 ntmps81 ?_;refine GW.wk (Wk.q6 3 1) ?_;simp only [nil_append];refine jv ?_;refine GL.wk (Wk.freeze (i:=1) rfl rfl rfl (aX _)) ?_;refine eh ?_;refine G ?_;refine dm [2,0] (hE none 0) ?_;rintro _ _ ⟨rfl,eb,ec,rfl⟩;refine dG ?_;refine G ?_;refine D [0] (hS eb ec) ?_;refine dm [0] (hC eb ec) ?_;rintro _ _ ⟨rfl,fz,S,rfl⟩;refine dG ?_;exact ax
theorem EE (p:Src) (hw:dk p<=1048576) {l:List T} (hg:Go.Im.Good p l) (L0:List Int) (hL:Trail p L0) :
  GF prog 67 [.agg (ao p),ints L0] [] (ints (gx (lU p l L0))) []:=by
 obtain ⟨⟨a1,a2⟩,⟨b1,b2⟩,⟨c1,c2⟩,⟨d1,d2⟩⟩:=dN p;have hlen:=hg.len;have vl:=hL.len
 have cX:(L0.map fun i=>[GV.v (ii i)]).length=L0.length:=by simp
 have iD:=Ra L0;obtain ⟨N,hN⟩:∃ N,p.fns.length=N:=⟨_,rfl⟩;refine dT func67 ntmps67 ?_;refine GW.wk (Wk.q6 3 1) ?_;simp only [nil_append];refine G ?_;refine GL.Cm 0 rfl rfl rfl rfl iD (by refine ⟨?_,?_⟩;(· rw [cX];omega);(· rw [cX];omega)) ?_;intro ad cp;rw [cX];refine eh ?_;simp only [nil_append,length_nil,fk];refine G ?_;refine GW.loop (fun s:Nat × List Int=>N - s.1) (fun s fr Γ=>∃ a c n S,fr=[U,U,.loc 1 0,U,U,.v (.slice a n c),.v (ii (s.1:Nat)),U,U,U,U,U,U,U,U,U,U,U,U,U,U,U,U,U,U,U,U,U,U,U,U,U,U,U,U,U,U,U,U,U]/\Γ=[.vech 3 1 S (.slice a n c),.box 34 (ao p)]/\S.length=n/\S=bC s.2/\Trail p s.2/\s.1<=s.2.length/\mo (jF p l) (N+1 - s.1) s.1 s.2=lU p l L0) (0,L0) ?_ ?_
 ·exact ⟨_,_,Wk.aK av,ad,cp,_,_,rfl,rfl,cX,rfl,hL,aX _,by rw [<-hN];rfl⟩
 rintro ⟨i,L⟩ _ _ ⟨a,c,n,S,rfl,rfl,lC,hS,hW,hi,he⟩;simp only at hS hW hi he;have ow:=hW.len
 have tf:n=L.length:=by rw [<-lC,hS,ew]
 by_cases ar:i < L.length
 ·have hd:decide ((i:Int) < (n:Int))=true:=decide_eq_true ag;obtain ⟨x,hx⟩:∃ x,L[i]?=some x:=⟨L[i],by simp [ar]⟩
  have Wb:S[i]?=some [.v (ii x)]:=by rw [hS];unfold bC;rw [aV,hx];rfl
  have pL:=hW.rng x (bm hx);obtain ⟨j,hj⟩:∃ j:Nat,x=(j:Int):=⟨x.toNat,by omega⟩;subst hj
  have pH:j < p.fns.length:=by omega
  obtain ⟨f,hf⟩:∃ f,p.fns[j]?=some f:=⟨p.fns[j],by simp [pH]⟩;obtain ⟨t,ht⟩:∃ t,l[j]?=some t:=⟨l[j]'ag,eF _⟩;have hC:=Jx p hw (hg.fn hf ht)
  have fm:jF p l (j:Int)=bY p t:=by unfold jF;rw [gA,ht]
  have jZ:mo (jF p l) (N+1 - (i+1)) (i+1) (dP L (bY p t))=lU p l L0:=by
   rw [<-he,show N+1 - i=(N+1 - (i+1))+1 by omega,Gd hx,fm]
  have ux:=nG p t;have eS:=Am p t
  have N7:((bY p t).map fun i=>[GV.v (ii i)]).length=(bY p t).length:=by simp
  have uy:i+1<=(dP L (bY p t)).length:=by
   obtain ⟨m,hm⟩:=w6 (bY p t) L;rw [hm,aZ];omega
  generalize bY p t=ks at *;refine G ?_;refine aJ (aD 0 5 (.q 7 (.a 5 (.q 6 .nil)))) ?_;refine au ?_;refine az [] hC ?_;refine G ?_;refine GW.range (ks.map fun i=>[GV.v (ii i)]).length (fun k fr Γ=>∃ a c n S,fr=[U,U,.loc 1 0,U,U,.v (.slice a n c),.v (ii (i:Nat)),U,U,U,U,U,U,U,U,U,U,U,U,U,U,U,ints ks,.v (ii ((ks.map fun i=>[GV.v (ii i)]).length:Int)),.v (ii (k:Nat)),U,U,U,U,U,U,U,U,U,U,U,U,U,U,U]/\Γ=[.vech 3 1 S (.slice a n c),.box 34 (ao p)]/\S.length=n/\S=bC (dP L (ks.take k))) ?_ ag ?_ ?_ ?_
  ·exact ⟨_,_,Wk.aK av,a,c,n,S,rfl,rfl,lC,hS⟩
  ·rintro k _ _ ⟨a,c,n,S,rfl,rfl,_⟩;exact dI
  ·rintro k _ _ hk ⟨a,c,n,S,rfl,rfl,lC,hS⟩;rw [N7] at hk;obtain ⟨y,hy⟩:∃ y,ks[k]?=some y:=⟨ks[k],by simp [hk]⟩
   have hry:(ks.map fun i=>[GV.v (ii i)])[k]?=some [.v (ii y)]:=by rw [aV,hy];rfl
   have VN:=hW.add (ks:=ks.take k) fun y hy=>ux y (List.mem_of_mem_take hy)
   have YR:=VN.len
   have CC:GF prog 82 [.sl 1 S,.v (ii y)] [] (.v (.bool ((dP L (ks.take k)).contains y))) []:=by
    rw [hS];exact Ai (dP L (ks.take k)) y ag
   have QC:=Ew L ks k y hy
   have vm:n<=1048576:=by rw [<-lC,hS,ew];omega
   rw [QC]
   cases hb:(dP L (ks.take k)).contains y with
   | true =>
    rw [hb] at CC;rw [ae rfl];refine G ?_;refine GL.borrow CC (fun B K β w l hI hF=>iT (A:=[]) (C:=[_]) hI hF rfl rfl) ?_;refine eh ?_;refine G ?_;exact ⟨rfl,rfl,_,_,Wk.aK av,a,c,n,S,rfl,rfl,lC,hS⟩
   | false =>
    rw [hb] at CC;rw [ab aM]
    have uA:bC (dP L (ks.take k)++[y])=S++[[.v (ii y)]]:=by rw [hS];simp [bC]
    rw [uA];clear hS;refine G ?_;refine GL.borrow CC (fun B K β w l hI hF=>iT (A:=[]) (C:=[_]) hI hF rfl rfl) ?_;refine eh ?_;refine G ?_;refine GL.lP 0 rfl rfl rfl rfl rfl rfl rfl rfl bf oK ?_;intro a2 c2;refine cm ?_;refine G ?_;exact ⟨rfl,rfl,_,_,Wk.aK av,a2,c2,_,_,rfl,rfl,by simp [lC],rfl⟩
  ·rintro _ _ ⟨a,c,n,S,rfl,rfl,lC,hS⟩;rw [N7,cy] at hS;refine jf (be ?_);refine G ?_;exact ⟨(i+1,dP L ks),⟨_,_,Wk.aK av,a,c,n,S,rfl,rfl,lC,hS,hW.add ux,uy,jZ⟩,by show N - (i+1) < N - i;omega⟩
 ·have hd:decide ((i:Int) < (n:Int))=false:=decide_eq_false ag;have hb:=Ge (cs:=jF p l) (f:=N+1 - i) (i:=i) (L:=L) ag;rw [hb] at he;rw [<-he];have YP:=MM L 3 a c ag;rw [<-tf,<-hS] at YP
  have rD:(bC (gx L)).length=n:=by rw [ew,nh,tf]
  refine dd ?_;refine G ?_;refine D [0] YP ?_;refine GW.wk (Wk.pZ (t:=4) (i:=0) rfl rfl rfl) ?_;exact ak
end Go.Xg
namespace Go.Im
open Go.Xp Go.Sp
theorem yl {l:List Int} {k:Nat} {x n:Int} (h:l[k]?=some x) (hc:(l.take k).contains n=false) (hx:(x==n)=false):(l.take (k+1)).contains n=false:=by
 rw [cq,h];simp only [List.contains_eq_mem,decide_eq_false_iff_not,mem_append,not_or] at *;refine ⟨hc,?_⟩;simp only [Option.toList_some,mem_singleton];intro e;subst e;simp at hx
theorem Gj {l:List Int} {k:Nat} {x n:Int} (h:l[k]?=some x) (hx:(x==n)=true):l.contains n=true:=by
 have:x=n:=by simpa using hx
 subst this;exact ej.2 (bm h)
theorem UA {l:List Int} {n:Int} (h:l.contains n=true):jn l n=l:=by unfold jn;rw [ae h]
theorem xX:∀ (ks l:List Int),(ks.foldl jn l).length<=l.length+ks.length
 | [],l=>by simp
 | k::r,l=>by
  have:=xX r (jn l k);have:=Rh (l:=l) (n:=k);rw [foldl_cons,length_cons];omega
end Go.Im
namespace Go.Xg
open GV (U)
open Go.RowKit Go.Xw Go.Proofs Tryz
open Go.Xp (Nd T Ar aO aC bZ)
open Go.Sp (Src)
open Go.Im
attribute [local irreducible] GW GL GO YG GC GA ba bc
theorem QS (l:List Int) (n:Int) (a:Option Addr) (c:Nat) (hl:l.length<=8388608) :
  GC prog 94 [.v (.slice a l.length c),.v (ii n)] [.vech 3 1 (bC l) (.slice a l.length c)] fun g Δ =>
   (l.contains n=true/\g=.v (.slice a l.length c)/\Δ=[.vech 3 1 (bC l) (.slice a l.length c)]) \/
   (l.contains n=false/\∃ a' c',g=.v (.slice a' (jn l n).length c')/\Δ=[.vech 3 1 (bC l) (.slice a l.length c),.vech 3 1 (bC (jn l n)) (.slice a' (jn l n).length c')]):=by
 have ow:=ew l;refine ai func94 ntmps94 ?_;refine oL ?_;refine GL.vK (t:=9) rfl rfl rfl rfl ?_;intro a1 c1;refine cm ?_;refine G ?_;refine GW.range l.length (fun k fr Γ=>∃ a1 c1 m dn S,fr=[.v (.slice a l.length c),.v (ii n),U,U,U,.v (.slice a1 m c1),.v (.bool dn),U,U,U,.v (.slice a l.length c),.v (ii (l.length:Int)),.v (ii (k:Nat)),U,U,U,U,U,U,U,U,U,U,U,U,U,U,U,U,U,U,U,U,U,U,U,U,U,U,U,U,U,U]/\Γ=[.vech 3 1 (bC l) (.slice a l.length c),.vech 3 1 S (.slice a1 m c1)]/\S.length=m/\S=bC (jV l n k).1/\dn=(jV l n k).2/\(l.take k).contains n=false) ?_ ag ?_ ?_ ?_
 ·exact ⟨_,_,Wk.aK av,a1,c1,0,false,[],rfl,rfl,rfl,rfl,rfl,rfl⟩
 ·rintro k _ _ ⟨a1,c1,m,dn,S,rfl,rfl,_⟩;exact dI
 ·rintro k _ _ ar ⟨a1,c1,m,dn,S,rfl,rfl,xZ,hS,J1,hc⟩;obtain ⟨x,hx⟩:∃ x,l[k]?=some x:=⟨l[k],by simp [ar]⟩
  have hr:(bC l)[k]?=some [.v (ii x)]:=by unfold bC;rw [aV,hx];rfl
  have eS:k < (bC l).length:=by omega
  have hm:m<=8388609:=by
   have:=(HT l n k).1;rw [<-xZ,hS,ew];omega
  have jZ:=Fx (n:=n) hx
  cases I:(x==n) with
  | true =>
   refine G ?_;refine nS ?_;exact pk (n:=1) rfl dH rfl (fi rfl) rfl rfl (.inl ⟨Gj hx I,rfl,rfl⟩)
  | false =>
   have iX:=yl hx hc I
   cases dn with
   | true =>
    have e:jV l n (k+1)=((jV l n k).1++[x],true):=by rw [jZ];unfold po;rw [<-J1];rfl
    have uA:bC (jV l n (k+1)).1=S++[[.v (ii x)]]:=by rw [e,hS];simp [bC]
    clear hS;refine G ?_;refine GL.lP 1 rfl rfl rfl rfl rfl rfl rfl rfl bf oK ?_;intro a2 c2;refine cm ?_;refine G ?_;exact ⟨rfl,rfl,_,_,Wk.aK av,a2,c2,_,true,_,rfl,rfl,by simp [xZ],uA.symm,by rw [e],iX⟩
   | false =>
    cases h3:decide (n < x) with
    | true =>
     have e:jV l n (k+1)=((jV l n k).1++[n]++[x],true):=by rw [jZ];unfold po;rw [<-J1,h3];rfl
     have uA:bC (jV l n (k+1)).1=(S++[[.v (ii n)]])++[[.v (ii x)]]:=by rw [e,hS];simp [bC]
     have hSl:(S++[[GV.v (ii n)]]).length=m+1:=by rw [aZ,xZ];rfl
     clear hS;refine G ?_;refine GL.lP 1 rfl rfl rfl rfl rfl rfl rfl rfl bf oK ?_;intro a2 c2;refine cm ?_;refine G ?_;refine GL.lP 1 rfl rfl rfl rfl rfl rfl rfl rfl bf oK ?_;intro a3 c3;refine cm ?_;refine G ?_;exact ⟨rfl,rfl,_,_,Wk.aK av,a3,c3,_,true,_,rfl,rfl,by simp [xZ],uA.symm,by rw [e],iX⟩
    | false =>
     have e:jV l n (k+1)=((jV l n k).1++[x],false):=by rw [jZ];unfold po;rw [<-J1,h3];rfl
     have uA:bC (jV l n (k+1)).1=S++[[.v (ii x)]]:=by rw [e,hS];simp [bC]
     clear hS;refine G ?_;refine GL.lP 1 rfl rfl rfl rfl rfl rfl rfl rfl bf oK ?_;intro a2 c2;refine cm ?_;refine G ?_;exact ⟨rfl,rfl,_,_,Wk.aK av,a2,c2,_,false,_,rfl,rfl,by simp [xZ],uA.symm,by rw [e],iX⟩
 ·rintro _ _ ⟨a1,c1,m,dn,S,rfl,rfl,xZ,hS,J1,hc⟩;rw [cy] at hc;have qe:=Ri l n hc
  have hm:m<=8388609:=by
   have:=(HT l n l.length).1;rw [<-xZ,hS,ew];omega
  refine be ?_
  cases dn with
  | true =>
   rw [ae J1.symm] at qe
   have e:m=(jn l n).length:=by rw [<-xZ,hS,ew,qe]
   subst e;rw [qe] at hS;subst hS;refine G ?_;refine nS ?_;exact pk (n:=2) rfl dH rfl (fi rfl) rfl rfl (.inr ⟨hc,a1,c1,rfl,rfl⟩)
  | false =>
   rw [ab (by rw [<-J1];decide)] at qe
   have uA:bC (jn l n)=S++[[.v (ii n)]]:=by rw [<-qe,hS];simp [bC]
   have e:(jn l n).length=m+1:=by rw [<-ew,uA,aZ,xZ];rfl
   rw [uA,e];clear hS;subst xZ;refine G ?_;refine GL.lP 1 rfl rfl rfl rfl rfl rfl rfl rfl bf oK ?_;intro a2 c2;refine cm ?_;refine G ?_;refine nS ?_;exact pk (n:=2) rfl dH rfl (fi rfl) rfl rfl (.inr ⟨hc,a2,c2,rfl,rfl⟩)
end Go.Xg
namespace Go.Im
open Go.Xp Go.Sp
def mx (l ks:List Int):List Int:=ks.foldl jn l
theorem Mc (l a b:List Int):mx l (a++b)=mx (mx l a) b:=List.foldl_append
theorem Md (l ks:List Int):(mx l ks).length<=l.length+ks.length:=xX ks l
theorem M9 (p:Src) {l:List T} {k:Nat} {u:T} (h:l[k]?=some u) (o:List Int) (n:Nd):mx o (qt p n++dS p (l.take (k+1)))=mx (mx o (qt p n++dS p (l.take k))) (iV p u):=by
 rw [Na p h,<-iw,Mc]
end Go.Im
namespace Go.Xg
open GV (U)
open Go.RowKit Go.Xw Go.Proofs Tryz
open Go.Xp (Nd T Ar aO aC bZ)
open Go.Sp (Src)
open Go.Im
attribute [local irreducible] GW GL GO YG GC GA ba bc
def U8 (l r:List Int) (a:Option Addr) (c:Nat) (g:GV) (Δ:List Ob):Prop :=
 (r=l/\g=.v (.slice a l.length c)/\Δ=[.vech 3 1 (bC l) (.slice a l.length c)]) \/
 (∃ a' c',g=.v (.slice a' r.length c')/\Δ=[.vech 3 1 (bC l) (.slice a l.length c),.vech 3 1 (bC r) (.slice a' r.length c')])
theorem OK (l:List Int) (n:Int) (a:Option Addr) (c:Nat) (hl:l.length<=8388608) :
  GC prog 94 [.v (.slice a l.length c),.v (ii n)] [.vech 3 1 (bC l) (.slice a l.length c)] (U8 l (jn l n) a c):=by
 refine (QS l n a c hl).mono fun g Δ h=>?_
 rcases h with ⟨I,F,h3⟩ | ⟨I,a',c',F,h3⟩
 ·exact .inl ⟨UA I,F,h3⟩
 ·exact .inr ⟨a',c',F,h3⟩
theorem LW (p:Src) (fL:p.fns.length<=1099511627776):∀ (N:Nat) (t:T),aO t<=N->∀ (l:List Int) (a:Option Addr) (c:Nat),l.length+aO t<=8388608 ->
  GC prog 79 [.v (.slice a l.length c),.agg (ao p),.agg (cT t)] [.vech 3 1 (bC l) (.slice a l.length c)] (U8 l (mx l (iV p t)) a c):=by
 intro N
 induction N with
 | zero=>intro t h;have:=jq t;omega
 | succ N ih =>
 intro t hN l a c mu
 cases t with
 | mk n ks =>
 rw [Go.Xp.aO] at hN mu;have ow:=bZ ks;have eR:(aU ks).length=ks.length:=aW ks;have hF:=tP p n.s fL;have e0:cr (fun x:Go.Sp.Fn=>x.name==n.s) p.fns=bE p n.s:=rfl;rw [e0] at hF;have hP:=OK l (bE p n.s) a c ag
 have iX:qt p n=if n.kind=4/\0<=bE p n.s then [bE p n.s] else []:=rfl
 rw [iV];generalize bE p n.s=z at *;refine ai func79 ntmps79 ?_;refine D [] hF ?_
 refine GL.X4 (fun fr Γ=>∃ h L,fr=[.v h,U,U,U,.loc 1 0,.loc 2 0,U,U,U,U,U,U,U,U,U,U,U,U,U,U,U,U,U,U,U,U,U,U,U,U,U,U,U,U,U,U,U,U,U]/\L=mx l (qt p n) /\
  ((L=l/\h=.slice a l.length c/\Γ=[.vech 3 1 (bC l) (.slice a l.length c),.box 34 (ao p),.box 75 (cT (.mk n ks))]) \/
   (∃ a' c',h=.slice a' L.length c'/\Γ=[.vech 3 1 (bC l) (.slice a l.length c),.box 34 (ao p),.box 75 (cT (.mk n ks)),.vech 3 1 (bC L) (.slice a' L.length c')]))) ?_ ?_
 ·cases q4:(n.kind==4) with
  | false =>
   rw [ab (fun h=>by rw [h.1] at q4;cases q4)] at iX;refine G ?_;exact ⟨_,_,Wk.aK av,_,l,rfl,by rw [iX];rfl,.inl ⟨rfl,rfl,rfl⟩⟩
  | true =>
   cases q5:decide ((0:Int)<=z) with
   | false =>
    rw [ab (fun h=>by have:=of_decide_eq_false q5;exact this h.2)] at iX;refine G ?_;exact ⟨_,_,Wk.aK av,_,l,rfl,by rw [iX];rfl,.inl ⟨rfl,rfl,rfl⟩⟩
   | true =>
    rw [ae ⟨by simpa using q4,by simpa using q5⟩] at iX;refine G ?_;refine dm [0] hP ?_;rintro _ _ (⟨I,rfl,rfl⟩ | ⟨a',c',rfl,rfl⟩)
    ·refine dG ?_;refine G ?_;exact ⟨_,_,Wk.aK av,_,l,rfl,by rw [iX];exact I.symm,.inl ⟨rfl,rfl,rfl⟩⟩
    ·refine dG ?_;refine G ?_;exact ⟨_,_,Wk.aK av,_,jn l z,rfl,by rw [iX];rfl,.inr ⟨a',c',rfl,rfl⟩⟩
 ·rintro _ _ ⟨h,L0,rfl,hL0,JZ⟩;have aaO:=DC p n
  rcases JZ with ⟨e1,rfl,rfl⟩ | ⟨a0,c0,rfl,rfl⟩
  all_goals
   refine G ?_
   refine GW.range (aU ks).length (fun k fr Γ=>∃ h L,fr=[.v h,U,U,U,.loc 1 0,.loc 2 0,U,U,U,U,U,U,U,U,U,U,U,U,U,U,U,U,U,U,U,U,U,.sl 6 (aU ks),.v (ii ((aU ks).length:Int)),.v (ii (k:Nat)),U,U,U,U,U,U,U,U,U]/\L=mx l (qt p n++dS p (ks.take k)) /\
    ((L=l/\h=.slice a l.length c/\Γ=[.vech 3 1 (bC l) (.slice a l.length c),.box 34 (ao p),.box 75 (cT (.mk n ks))]) \/
     (∃ a' c',h=.slice a' L.length c'/\Γ=[.vech 3 1 (bC l) (.slice a l.length c),.box 34 (ao p),.box 75 (cT (.mk n ks)),.vech 3 1 (bC L) (.slice a' L.length c')]))) ?_ ag ?_ ?_ ?_
   ·exact ⟨_,_,Wk.aK av,_,L0,rfl,by rw [List.take_zero,dS,iy];exact hL0,by first | exact .inl ⟨e1,rfl,rfl⟩ | exact .inr ⟨_,_,rfl,rfl⟩⟩
   ·rintro k _ _ ⟨h,L,rfl,_,JZ⟩;exact dI
   ·rintro k _ _ ar ⟨h,L,rfl,hL,JZ⟩;rw [eR] at ar;obtain ⟨u,hu⟩:∃ u,ks[k]?=some u:=⟨ks[k],by simp [ar]⟩;have hr:=cI hu;have cB:=iK hu
    have hLl:L.length<=l.length+1+aC (ks.take k):=by
     have:=Md l (qt p n++dS p (ks.take k));have:=Gi p (ks.take k);rw [aZ] at *;rw [hL];omega
    have jZ:=M9 p hu l n;rw [<-hL] at jZ;rw [jZ]
    rcases JZ with ⟨e2,rfl,rfl⟩ | ⟨a',c',rfl,rfl⟩
    ·subst e2;have hi:=ih u ag L a c ag;generalize mx L (iV p u)=L2 at *;refine G ?_;refine dm [0] hi ?_;rintro _ _ (⟨I,rfl,rfl⟩ | ⟨a2,c2,rfl,rfl⟩)
     ·refine dG ?_;refine G ?_;exact ⟨rfl,rfl,_,_,(Wk.cut (n:=3) (fi rfl) rfl).trans (Wk.aK av),_,L2,rfl,rfl,.inl ⟨I,rfl,rfl⟩⟩
     ·refine dG ?_;refine G ?_;exact ⟨rfl,rfl,_,_,(Wk.keep (n:=3) (j:=4) (fi rfl) aM rfl rfl rfl).trans (Wk.aK av),_,L2,rfl,rfl,.inr ⟨a2,c2,rfl,rfl⟩⟩
    ·have hi:=ih u ag L a' c' ag;generalize mx L (iV p u)=L2 at *;refine G ?_;refine dm [3] hi ?_;rintro _ _ (⟨rfl,rfl,rfl⟩ | ⟨a2,c2,rfl,rfl⟩)
     ·refine dG ?_;refine G ?_;exact ⟨rfl,rfl,_,_,(Wk.cut (n:=4) (fi rfl) rfl).trans (Wk.aK av),_,_,rfl,rfl,.inr ⟨a',c',rfl,rfl⟩⟩
     ·refine dG ?_;refine G ?_;exact ⟨rfl,rfl,_,_,(Wk.keep (n:=3) (j:=5) (fi rfl) aM rfl rfl rfl).trans (Wk.aK av),_,L2,rfl,rfl,.inr ⟨a2,c2,rfl,rfl⟩⟩
   ·rintro _ _ ⟨h,L,rfl,hL,JZ⟩;rw [eR,cy] at hL;rw [<-hL];refine be ?_
    rcases JZ with ⟨e2,rfl,rfl⟩ | ⟨a',c',rfl,rfl⟩
    ·refine G ?_;refine nS ?_;exact pk (n:=1) rfl dH rfl (fi rfl) rfl rfl (.inl ⟨e2,rfl,rfl⟩)
    ·refine GW.wk (Wk.keep (n:=1) (j:=3) (aH _) aM rfl rfl rfl) ?_;refine GW.JJ (cl:=[.v (.slice a' L.length c'),U,U,U,U,U,U,U,U,U,U,U,U,U,U,U,U,U,U,U,U,U,U,U,U,U,U,U,U,U,U,U,U,U,U,U,U,U,U]) (aS:=[.vech 3 1 (bC l) (.slice a l.length c),.vech 3 1 (bC L) (.slice a' L.length c')]) av rfl ?_;refine G ?_;refine nS ?_;exact pk (n:=2) rfl dH rfl (fi rfl) rfl rfl (.inr ⟨a',c',rfl,rfl⟩)
end Go.Xg
namespace Go.Im
open Go.Xp Go.Sp
theorem Me (ks:List Int):mx [] ks=pO ks:=rfl
theorem tO {p:Src} {i:Nat} (hg:cU p=true) (hi:i < p.fns.length):gI p (i:Int)=true:=by
 unfold gI;rw [hg,decide_eq_true (show (0:Int)<=(i:Int) by omega),decide_eq_true (show (i:Int) < (p.fns.length:Int) by omega)];rfl
end Go.Im
namespace Go.Xg
open GV (U)
open Go.RowKit Go.Xw Go.Proofs Tryz
open Go.Xp (Nd T Ar aO aC bZ)
open Go.Sp (Src)
open Go.Im
attribute [local irreducible] GW GL GO YG GC GA ba bc
theorem Cg (p:Src) (hw:dk p<=1048576) {l:List T} {i:Nat} {f:Go.Sp.Fn} {t:T} (hg:cU p=true) (h:fq p l i f t) :
  GC prog 60 [.agg (ao p),.v (ii (i:Nat))] [] fun g Δ=>∃ a c,g=.v (.slice a (bY p t).length c)/\Δ=[.vech 3 1 (bC (bY p t)) (.slice a (bY p t).length c)]:=by
 obtain ⟨⟨a1,a2⟩,⟨b1,b2⟩,⟨c1,c2⟩,⟨d1,d2⟩⟩:=dN p;have hG:=zL p hw;rw [hg] at hG
 have lE:(p.fns.map ay).length=p.fns.length:=by simp
 have hi:=(bh h.gf).1
 have hr:(p.fns.map ay)[i]?=some (ay f):=by rw [aV,h.gf];rfl
 have q2:decide ((i:Int) < 0)=false:=decide_eq_false ag;have q3:decide (((p.fns.map ay).length:Int)<=(i:Int))=false:=decide_eq_false (by rw [lE];omega);have hS:=Xb p (fun n hn=>by have:=(d2 n hn).2;omega) f t h.body h.st
 have hC:=fun a c=>LW p ag _ t (aH _) [] a c (by have:=h.sz;show 0+_<=_;omega)
 rw [Me] at hC;unfold bY;unfold ay at hr;generalize pO (iV p t)=rr at *;refine ai func60 ntmps60 ?_;refine D [] hG ?_;refine aJ (aD 1 8 (.f 0 (.a 9 (.a 10 (.q 11 .nil))) 9 (.a 0 (.a 10 (.q 11 .nil))))) ?_;refine au ?_;refine GO.fork ?_ ?_
 ·refine OA rfl rfl (GL.S6 rfl rfl rfl rfl ?_);refine GL.vK (t:=19) rfl rfl rfl rfl ?_;intro a1 c1;refine dE ?_;refine au ?_;refine az [] hS ?_;refine OA rfl rfl ?_;refine dm [1] (hC a1 c1) ?_;rintro _ _ (⟨I,rfl,rfl⟩ | ⟨a',c',rfl,rfl⟩)
  ·refine ⟨by simp,?_⟩;refine dE ?_;subst I;refine bj ?_;refine nS ?_;refine FT 1 rfl dH rfl ?_ ?_
   ·intro x hx;rw [Ek hx];rfl
   ·exact ⟨_,_,rfl,rfl⟩
  ·refine ⟨by simp,?_⟩;refine dE ?_;refine bj ?_;refine nS ?_;refine FT 2 rfl dH rfl ?_ ?_
   ·intro x hx;rw [Ek hx];rfl
   ·exact ⟨_,_,rfl,rfl⟩
 ·refine az [] hS ?_;refine OA rfl rfl (GL.S6 rfl rfl rfl rfl ?_);refine GL.vK (t:=19) rfl rfl rfl rfl ?_;intro a1 c1;refine dE ?_;refine au ?_;refine OA rfl rfl ?_;refine dm [1] (hC a1 c1) ?_;rintro _ _ (⟨I,rfl,rfl⟩ | ⟨a',c',rfl,rfl⟩)
  ·refine ⟨by simp,?_⟩;refine dE ?_;subst I;refine bj ?_;refine nS ?_;refine FT 1 rfl dH rfl ?_ ?_
   ·intro x hx;rw [Ek hx];rfl
   ·exact ⟨_,_,rfl,rfl⟩
  ·refine ⟨by simp,?_⟩;refine dE ?_;refine bj ?_;refine nS ?_;refine FT 2 rfl dH rfl ?_ ?_
   ·intro x hx;rw [Ek hx];rfl
   ·exact ⟨_,_,rfl,rfl⟩
theorem vO (p:Src) (t:T):Trail p (bY p t):=⟨uR (oO p t),nG p t⟩
theorem Fj (p:Src) (hw:dk p<=1048576) (ct:cU p=true) {l:List T} {i0:Nat} {f0:Go.Sp.Fn} {t0:T} (h0:fq p l i0 f0 t0) :
  GF prog 43 [.agg (ao p),.v (ii (i0:Nat))] [] (ints (lU p l (bY p t0))) []:=by
 obtain ⟨⟨a1,a2⟩,⟨b1,b2⟩,⟨c1,c2⟩,⟨d1,d2⟩⟩:=dN p;have hlen:=h0.good.len;have hg:=h0.good;have hL:=vO p t0;have vl:=hL.len;have hC0:=Cg p hw ct h0;generalize bY p t0=L0 at *;obtain ⟨N,hN⟩:∃ N,p.fns.length=N:=⟨_,rfl⟩;have N5:=ew L0;refine ai func43 ntmps43 ?_;refine dm [] hC0 ?_;rintro _ _ ⟨ad,cp,rfl,rfl⟩;refine dG ?_;refine G ?_;refine GW.loop (fun s:Nat × List Int=>N - s.1) (fun s fr Γ=>∃ a c n S,fr=[U,U,.loc 0 0,U,U,.v (.slice a n c),.v (ii (s.1:Nat)),U,U,U,U,U,U,U,U,U,U,U,U,U,U,U,U,U,U,U,U,U,U,U,U,U,U,U,U,U,U,U,U]/\Γ=[.box 34 (ao p),.vech 3 1 S (.slice a n c)]/\S.length=n/\S=bC s.2/\Trail p s.2/\s.1<=s.2.length/\mo (jF p l) (N+1 - s.1) s.1 s.2=lU p l L0) (0,L0) ?_ ?_
 ·exact ⟨_,_,Wk.aK av,ad,cp,_,_,rfl,rfl,N5,rfl,hL,aX _,by rw [<-hN];rfl⟩
 rintro ⟨i,L⟩ _ _ ⟨a,c,n,S,rfl,rfl,lC,hS,hW,hi,he⟩;simp only at hS hW hi he;have ow:=hW.len
 have tf:n=L.length:=by rw [<-lC,hS,ew]
 by_cases ar:i < L.length
 ·have hd:decide ((i:Int) < (n:Int))=true:=decide_eq_true ag;obtain ⟨x,hx⟩:∃ x,L[i]?=some x:=⟨L[i],by simp [ar]⟩
  have Wb:S[i]?=some [.v (ii x)]:=by rw [hS];unfold bC;rw [aV,hx];rfl
  have pL:=hW.rng x (bm hx);obtain ⟨j,hj⟩:∃ j:Nat,x=(j:Int):=⟨x.toNat,by omega⟩;subst hj
  have pH:j < p.fns.length:=by omega
  obtain ⟨f,hf⟩:∃ f,p.fns[j]?=some f:=⟨p.fns[j],by simp [pH]⟩;obtain ⟨t,ht⟩:∃ t,l[j]?=some t:=⟨l[j]'ag,eF _⟩;have hC:=Cg p hw ct (hg.fn hf ht)
  have fm:jF p l (j:Int)=bY p t:=by unfold jF;rw [gA,ht]
  have jZ:mo (jF p l) (N+1 - (i+1)) (i+1) (dP L (bY p t))=lU p l L0:=by
   rw [<-he,show N+1 - i=(N+1 - (i+1))+1 by omega,Gd hx,fm]
  have ux:=nG p t;have eS:=Am p t
  have N7:((bY p t).map fun i=>[GV.v (ii i)]).length=(bY p t).length:=by simp
  have uy:i+1<=(dP L (bY p t)).length:=by
   obtain ⟨m,hm⟩:=w6 (bY p t) L;rw [hm,aZ];omega
  generalize bY p t=ks at *;refine G ?_;refine aJ (aD 0 5 (.q 7 (.a 5 (.q 6 .nil)))) ?_;refine au ?_;refine OA rfl rfl ?_;refine dm [] hC ?_;rintro _ _ ⟨a2,c2,rfl,rfl⟩;refine ⟨by simp,?_⟩;refine GL.wk (Wk.pZ (t:=23) (i:=2) rfl rfl rfl) ?_;refine dE ?_;refine bj ?_;refine GW.range (ks.map fun i=>[GV.v (ii i)]).length (fun k fr Γ=>∃ a c n S B,fr=[U,U,.loc 0 0,U,U,.v (.slice a n c),.v (ii (i:Nat)),U,U,U,U,U,U,U,U,U,U,U,U,U,U,U,U,ints ks,.v (ii ((ks.map fun i=>[GV.v (ii i)]).length:Int)),.v (ii (k:Nat)),U,U,U,U,U,U,U,U,U,U,U,U,U]/\Γ=[.box 34 (ao p),.vech 3 1 S (.slice a n c),B]/\S.length=n/\S=bC (dP L (ks.take k))) ?_ ag ?_ ?_ ?_
  ·exact ⟨_,_,Wk.aK av,a,c,n,S,_,rfl,rfl,lC,hS⟩
  ·rintro k _ _ ⟨a,c,n,S,B,rfl,rfl,_⟩;exact dI
  ·rintro k _ _ hk ⟨a,c,n,S,B,rfl,rfl,lC,hS⟩;rw [N7] at hk;obtain ⟨y,hy⟩:∃ y,ks[k]?=some y:=⟨ks[k],by simp [hk]⟩
   have hry:(ks.map fun i=>[GV.v (ii i)])[k]?=some [.v (ii y)]:=by rw [aV,hy];rfl
   have VN:=hW.add (ks:=ks.take k) fun y hy=>ux y (List.mem_of_mem_take hy)
   have YR:=VN.len
   have CC:GF prog 42 [.sl 1 S,.v (ii y)] [] (.v (.bool ((dP L (ks.take k)).contains y))) []:=by
    rw [hS];exact xu (dP L (ks.take k)) y ag
   have QC:=Ew L ks k y hy
   have vm:n<=1048576:=by rw [<-lC,hS,ew];omega
   rw [QC]
   cases hb:(dP L (ks.take k)).contains y with
   | true =>
    rw [hb] at CC;rw [ae rfl];refine G ?_;refine GL.borrow CC (fun B K β w l hI hF=>iT (A:=[_]) (C:=[_]) hI hF rfl rfl) ?_;refine eh ?_;refine G ?_;exact ⟨rfl,rfl,_,_,Wk.aK av,a,c,n,S,B,rfl,rfl,lC,hS⟩
   | false =>
    rw [hb] at CC;rw [ab aM]
    have uA:bC (dP L (ks.take k)++[y])=S++[[.v (ii y)]]:=by rw [hS];simp [bC]
    rw [uA];clear hS;refine G ?_;refine GL.borrow CC (fun B K β w l hI hF=>iT (A:=[_]) (C:=[_]) hI hF rfl rfl) ?_;refine eh ?_;refine G ?_;refine GL.lP 1 rfl rfl rfl rfl rfl rfl rfl rfl bf oK ?_;intro a2 c2;refine cm ?_;refine G ?_;exact ⟨rfl,rfl,_,_,Wk.aK av,a2,c2,_,_,B,rfl,rfl,by simp [lC],rfl⟩
  ·rintro _ _ ⟨a,c,n,S,B,rfl,rfl,lC,hS⟩;rw [N7,cy] at hS;refine jf (be ?_);refine G ?_;exact ⟨(i+1,dP L ks),⟨_,_,(Wk.cut (n:=2) (aX _) rfl).trans (Wk.aK av),a,c,n,S,rfl,rfl,lC,hS,hW.add ux,uy,jZ⟩,by show N - (i+1) < N - i;omega⟩
 ·have hd:decide ((i:Int) < (n:Int))=false:=decide_eq_false ag;have hb:=Ge (cs:=jF p l) (f:=N+1 - i) (i:=i) (L:=L) ag;rw [hb] at he;rw [<-he];subst hS;refine dd ?_;refine G ?_;refine GW.wk (Wk.pZ (t:=4) (i:=1) rfl rfl rfl) ?_;exact ak
end Go.Xg
namespace Go.Im
open Go.Xp Go.Sp
def a8 (p:Src) (fn:Int):List Int:=if gI p fn=true then (match jE p.nodes p.fns 0 [] with | some (l,_)=>lU p l (jF p l fn) | none=>[]) else []
theorem og {p:Src} {l:List T} {i:Nat} {f:Go.Sp.Fn} {t:T} (hh:gI p (i:Int)=true) (h:fq p l i f t):a8 p (i:Int)=lU p l (bY p t):=by
 unfold a8;rw [ae hh,h.good.EA];simp only;unfold jF;rw [gA,h.gt]
theorem BC {p:Src} {fn:Int} (h:gI p fn=false):a8 p fn=[]:=by unfold a8;rw [h];rfl
theorem eX {p:Src} {fn:Int}:Trail p (a8 p fn):=by
 cases hh:gI p fn with
 | false=>rw [BC hh];exact ⟨List.Pairwise.nil,by simp⟩
 | true =>
  obtain ⟨i,l,f,t,rfl,h⟩:=tN hh;rw [og hh h];exact zz _ _ _ ⟨uR (oO p t),nG p t⟩
def qN (p:Src) (a b:Int):Bool:=(a8 p a).contains b
theorem Ib (l:List Int) (x:Int):(gx l).contains x=l.contains x:=by
 cases h:l.contains x with
 | true=>exact ej.2 (ql.2 (ej.1 h))
 | false =>
  cases F:(gx l).contains x with
  | false=>rfl
  | true=>rw [ej.2 (ql.1 (ej.1 F))] at h;cases h
theorem JA (p:Src) (l:List T) (x:Int):Trail p (jF p l x):=by
 refine ⟨?_,vY p l x⟩;unfold jF;split
 ·exact uR (oO p _)
 ·exact List.Pairwise.nil
theorem mI (p:Src):F9 (a8 p):=by
 intro a b hb c hc
 have ha:gI p a=true:=by
  cases h:gI p a with
  | true=>rfl
  | false=>rw [BC h] at hb;cases hb
 have bo:gI p b=true:=by
  cases h:gI p b with
  | true=>rfl
  | false=>rw [BC h] at hc;cases hc
 obtain ⟨i,l,f,t,rfl,h⟩:=tN ha
 have hF:∀ x,gI p x=true->a8 p x=lU p l (jF p l x):=by
  intro x hx;unfold a8;rw [ae hx,h.good.EA]
 rw [hF _ ha] at hb |-;rw [hF _ bo] at hc;have hw:=JA p l (i:Int);have vj:=tq (jF p l) p.fns.length (vY p l) (p.fns.length+1) 0 (jF p l (i:Int)) hw.nodup hw.rng (by omega) (fun j x hj=>by omega);exact sw (jF p l) (fun x=>x∈lU p l (jF p l (i:Int))) (fun x hx y hy=>vj x hx y hy) _ 0 (jF p l b) (fun x hx=>vj b hb x hx) c hc
def FZ (p:Src):List Int:=if cU p=true then cK (a8 p) p.fns.length p.fns.length else []
end Go.Im
namespace Go.Xg
open GV (U)
open Go.RowKit Go.Xw Go.Proofs Tryz
open Go.Xp (Nd T Ar aO aC bZ)
open Go.Sp (Src)
open Go.Im
attribute [local irreducible] GW GL GO YG GC GA ba bc
theorem GZ (p:Src) (hw:dk p<=1048576) (ct:cU p=true) {i:Nat} (hi:i < p.fns.length) :
  GF prog 43 [.agg (ao p),.v (ii (i:Nat))] [] (ints (a8 p (i:Int))) []:=by
 obtain ⟨i',l,f,t,he,h⟩:=tN (tO ct hi)
 have:i'=i:=by omega
 subst this;rw [og (tO ct hi) h];exact Fj p hw ct h
theorem G0 (p:Src) (x:Int):(a8 p x).length<=p.fns.length:=(eX (p:=p) (fn:=x)).len
theorem ES (p:Src) (hw:dk p<=1048576) (a b:Int):GF prog 42 [ints (a8 p a),.v (ii b)] [] (.v (.bool ((a8 p a).contains b))) []:=by
 obtain ⟨⟨a1,a2⟩,⟨b1,b2⟩,⟨c1,c2⟩,⟨d1,d2⟩⟩:=dN p;have:=G0 p a;exact xu (a8 p a) b ag
theorem OM (p:Src) (hw:dk p<=1048576) (ct:cU p=true) {a b:Nat} (ha:a < p.fns.length) (hb:b < p.fns.length) :
  GF prog 78 [.agg (ao p),.v (ii (a:Nat)),.v (ii (b:Nat))] [] (.v (.bool (oW (a8 p) (a:Int) (b:Int)))) []:=by
 have hA:=GZ p hw ct ha;have hB:=GZ p hw ct hb;have Ss:=ES p hw (a:Int) (b:Int);have hHb:=ES p hw (b:Int) (a:Int);unfold oW;generalize a8 p (a:Int)=La at *;generalize a8 p (b:Int)=Lb at *
 cases he:((a:Int)==(b:Int)) with
 | true =>
  rw [Bool.true_or];refine ai func78 ntmps78 ?_;exact ak
 | false =>
  rw [Bool.false_or]
  cases I:La.contains (b:Int) with
  | false =>
   rw [I] at Ss;rw [Bool.false_and];refine ai func78 ntmps78 ?_;refine D [] hA ?_;refine D [] Ss ?_;exact ak
  | true =>
   rw [I] at Ss;rw [Bool.true_and];generalize Lb.contains (a:Int)=z at *;refine ai func78 ntmps78 ?_;refine D [] hA ?_;refine D [] Ss ?_;refine D [] hB ?_;refine D [] hHb ?_;exact ak
theorem OL (p:Src) (hw:dk p<=1048576) (ct:cU p=true) {f:Nat} (hf:f < p.fns.length) (told:List Int) (oy:told.length<=1048576) :
  GF prog 59 [.agg (ao p),.v (ii (f:Nat)),ints told] [] (.v (.bool (pU (a8 p) told (f:Int)))) []:=by
 obtain ⟨⟨a1,a2⟩,⟨b1,b2⟩,⟨c1,c2⟩,⟨d1,d2⟩⟩:=dN p;have hA:=GZ p hw ct hf;have hLl:=G0 p (f:Int);have hLr:∀ y∈a8 p (f:Int),0<=y/\y < (p.fns.length:Int):=(eX (p:=p) (fn:=(f:Int))).rng
 have xZ:∀ b:Nat,b < p.fns.length->GF prog 78 [.agg (ao p),.v (ii (f:Nat)),.v (ii (b:Nat))] [] (.v (.bool (oW (a8 p) (f:Int) (b:Int)))) []:=fun b hb=>OM p hw ct hf hb
 have hT:∀ y:Int,GF prog 42 [ints told,.v (ii y)] [] (.v (.bool (told.contains y))) []:=fun y=>xu told y ag
 have hTf:=hT (f:Int);unfold pU;generalize hL:a8 p (f:Int)=L at *
 have eL:(L.map fun i=>[GV.v (ii i)]).length=L.length:=by simp
 refine ai func59 ntmps59 ?_;refine D [] hA ?_;refine GW.range (L.map fun i=>[GV.v (ii i)]).length (fun k fr Γ=>fr=[U,.v (ii (f:Nat)),ints told,.loc 0 0,U,U,U,U,U,U,U,ints L,.v (ii ((L.map fun i=>[GV.v (ii i)]).length:Int)),.v (ii (k:Nat)),U,U,U,U,U,U,U,U,U,U,U,U,U,U,U,U,U,U,U]/\Γ=[.box 34 (ao p)]/\(L.take k).all (fun g=>told.contains g || oW (a8 p) (f:Int) g)=true) ?_ ag ?_ ?_ ?_
 ·exact jW
 ·exact ig
 ·rintro k _ _ ar ⟨rfl,rfl,hc⟩;rw [eL] at ar;obtain ⟨y,de⟩:∃ y,L[k]?=some y:=⟨L[k],by simp [ar]⟩;have hr:=iR de
  have bB:(L.take (k+1)).all (fun g=>told.contains g || oW (a8 p) (f:Int) g)=(told.contains y || oW (a8 p) (f:Int) y):=by
   rw [cq,de,all_append,hc,Bool.true_and];simp
  have hm:=bm de;have hyr:=hLr y hm;obtain ⟨j,hj⟩:∃ j:Nat,y=(j:Int):=⟨y.toNat,by omega⟩;subst hj;have hS:=xZ j ag;have NV:=hT (j:Int)
  cases I:told.contains (j:Int) with
  | true =>
   rw [I] at NV bB;refine G ?_;refine D [] NV ?_;exact ⟨rfl,rfl,_,_,Wk.aK av,rfl,rfl,by rw [bB];rfl⟩
  | false =>
   rw [I] at NV bB
   cases F:oW (a8 p) (f:Int) (j:Int) with
   | true =>
    rw [F] at hS bB;refine G ?_;refine D [] NV ?_;refine D [] hS ?_;exact ⟨rfl,rfl,_,_,Wk.aK av,rfl,rfl,by rw [bB];rfl⟩
   | false =>
    rw [F] at hS
    have bX:L.all (fun g=>told.contains g || oW (a8 p) (f:Int) g)=false:=by
     rw [List.all_eq_false];exact ⟨(j:Int),hm,by rw [I,F];decide⟩
    rw [bX,Bool.false_and];refine G ?_;refine D [] NV ?_;refine D [] hS ?_;exact ak
 ·rintro _ _ ⟨rfl,rfl,hc⟩;rw [eL,cy] at hc;rw [hc,Bool.true_and];generalize told.contains (f:Int)=z at *;refine G ?_;refine D [] hTf ?_;exact ak
theorem IM (p:Src) (hw:dk p<=1048576) :
  GF prog 41 [.agg (ao p)] [] (ints (FZ p)) []:=by
 obtain ⟨⟨a1,a2⟩,⟨b1,b2⟩,⟨c1,c2⟩,⟨d1,d2⟩⟩:=dN p
 have wm:(p.fns.map ay).length=p.fns.length:=by simp
 have hG:=zL p hw;unfold FZ
 cases ct:cU p with
 | false =>
  rw [ct] at hG;rw [ab aM];refine ai func41 ntmps41 ?_;refine b6 ?_;refine G ?_;refine D [] hG ?_;exact ak
 | true =>
  rw [ct] at hG;rw [ae rfl];have hlk:=oC (mI p) (n:=p.fns.length) (fun a=>(eX (p:=p) (fn:=a)).nodup) (fun a=>(eX (p:=p) (fn:=a)).rng);refine ai func41 ntmps41 ?_;refine oL ?_;refine GL.vK (t:=5) rfl rfl rfl rfl ?_;intro ad0 cp0;refine cm ?_;refine G ?_;refine D [] hG ?_;refine GW.range (p.fns.map ay).length (fun k fr Γ=>∃ a c n S,fr=[U,.loc 0 0,U,.v (.slice a n c),U,U,U,U,U,U,U,.sl 3 (p.fns.map ay),.v (ii ((p.fns.map ay).length:Int)),.v (ii (k:Nat)),U,U,U,U,U,U,U,U,U,U,U,U,U,U,U,U,U,U]/\Γ=[.box 34 (ao p),.vech 3 1 S (.slice a n c)]/\S.length=n/\S=bC (cK (a8 p) p.fns.length k)) ?_ ag ?_ ?_ ?_
  ·exact ⟨_,_,Wk.aK av,ad0,cp0,0,[],rfl,rfl,rfl,rfl⟩
  ·rintro k _ _ ⟨a,c,n,S,rfl,rfl,_⟩;exact dI
  ·rintro k _ _ hk ⟨a,c,n,S,rfl,rfl,lC,hS⟩;rw [wm] at hk;have vl:=hlk k ag;obtain ⟨f,-,hf,pb,bX,bI⟩:=sJ (mI p) (n:=p.fns.length) (fun a=>(eX (p:=p) (fn:=a)).nodup) (fun a=>(eX (p:=p) (fn:=a)).rng) (told:=cK (a8 p) p.fns.length k) ag;have jZ:cK (a8 p) p.fns.length (k+1)=cK (a8 p) p.fns.length k++[(f:Int)]:=bI
   have NT:∀ j:Nat,j < p.fns.length->GF prog 59 [.agg (ao p),.v (ii (j:Nat)),.sl 1 S] [] (.v (.bool (pU (a8 p) (cK (a8 p) p.fns.length k) (j:Int)))) []:=fun j hj=>by
    rw [hS];exact OL p hw ct hj _ ag
   have uA:bC (cK (a8 p) p.fns.length (k+1))=S++[[.v (ii (f:Int))]]:=by rw [jZ,hS];simp [bC]
   have vm:n<=1048576:=by rw [<-lC,hS,ew];omega
   rw [uA];clear hS bI jZ uA;generalize cK (a8 p) p.fns.length k=o at *;refine G ?_;refine GW.range (p.fns.map ay).length (fun j fr Γ=>j<=f/\fr=[U,.loc 0 0,U,.v (.slice a n c),U,U,U,U,U,U,U,.sl 3 (p.fns.map ay),.v (ii ((p.fns.map ay).length:Int)),.v (ii (k:Nat)),U,U,.sl 3 (p.fns.map ay),.v (ii ((p.fns.map ay).length:Int)),.v (ii (j:Nat)),U,U,U,U,U,U,U,U,U,U,U,U,U]/\Γ=[.box 34 (ao p),.vech 3 1 S (.slice a n c)]) ?_ ag ?_ ?_ ?_
   ·exact ⟨_,_,Wk.aK av,aX _,rfl,rfl⟩
   ·rintro j _ _ ⟨_,rfl,rfl⟩;exact dI
   ·rintro j _ _ hj ⟨YY,rfl,rfl⟩;rw [wm] at hj;have hC:=NT j hj
    by_cases he:j=f
    ·subst he;rw [pb] at hC;refine G ?_;refine GL.borrow hC (fun B K β w l hI hF=>lz (A:=[_]) (C:=[]) hI hF rfl rfl rfl) ?_;refine eh ?_;refine G ?_;refine GL.lP 1 rfl rfl rfl rfl rfl rfl rfl rfl bf oK ?_;intro a2 c2;refine cm ?_;refine dd ?_;refine G ?_;exact ⟨rfl,rfl,_,_,Wk.aK av,a2,c2,_,_,rfl,rfl,by simp [lC],rfl⟩
    ·rw [bX j ag] at hC;refine G ?_;refine GL.borrow hC (fun B K β w l hI hF=>lz (A:=[_]) (C:=[]) hI hF rfl rfl rfl) ?_;refine eh ?_;refine G ?_;exact ⟨rfl,rfl,_,_,Wk.aK av,by omega,rfl,rfl⟩
   ·rintro _ _ ⟨YY,rfl,rfl⟩;rw [wm] at YY;omega
  ·rintro _ _ ⟨a,c,n,S,rfl,rfl,lC,hS⟩;rw [wm] at hS;subst hS;refine be ?_;refine G ?_;refine GW.wk (Wk.pZ (t:=2) (i:=1) rfl rfl rfl) ?_;exact ak
end Go.Xg
namespace Go.Im
open Go.Xp Go.Sp
def gh (al:Bool) (n:Nd):Nat:=if (!al || (n.kind==4&&n.s==pW))=true then 1 else 0
def dW (a b:Int):Int:=if a < 0\/b < 0\/1000000000 < a+b then -1 else a+b
def qi (a b:Int):Int:=if a < 0\/b < 0 then -1 else if b < a then a else b
def gn (n:Nat):Nat:=min n 1000000001
def mR (v:Int) (w:Nat):Prop:=w<=1000000001/\v=if 1000000000 < w then -1 else (w:Int)
theorem rT {v v':Int} {w w':Nat} (h:mR v w) (k:mR v' w'):mR (dW v v') (gn (w+w')):=by
 obtain ⟨I,F⟩:=h;obtain ⟨k1,k2⟩:=k;unfold mR dW gn;refine ⟨Nat.min_le_right _ _,?_⟩;subst F k2
 by_cases a:1000000000 < w <;> by_cases b:1000000000 < w' <;> simp only [a,b,if_true,if_false] <;> (split <;> split <;> omega)
theorem HU {v v':Int} {w w':Nat} (h:mR v w) (k:mR v' w'):mR (qi v v') (max w w'):=by
 obtain ⟨I,F⟩:=h;obtain ⟨k1,k2⟩:=k;unfold mR qi;refine ⟨by omega,?_⟩;subst F k2
 by_cases a:1000000000 < w <;> by_cases b:1000000000 < w' <;> simp only [a,b,if_true,if_false] <;> (split <;> split <;> (try split) <;> omega)
theorem Pb:mR 0 0:=⟨by omega,rfl⟩
theorem Rk (al:Bool) (n:Nd):mR (gh al n:Nat) (gh al n):=by
 unfold gh;split <;> exact ⟨by decide,rfl⟩
section
variable (p:Src) (al:Bool)
def tD (V:Int->Int) (n:Nd) (ks:List Int):Int :=
 if n.kind=4/\n.s=cD then (gh al n:Nat)
 else if n.kind=10 then -1
 else if n.kind=9 then dW (dW (gh al n:Nat) (ks.headD 0)) (qi (ks.getD 1 0) (ks.getD 2 0))
 else if n.kind=4/\0<=bE p n.s then dW (ks.foldl dW (gh al n:Nat)) (V (bE p n.s)) else ks.foldl dW (gh al n:Nat)
mutual
def cR (V:Int->Int):T->Int
 | .mk n l=>tD p al V n (jw V l)
def jw (V:Int->Int):List T->List Int
 | []=>[]
 | t::r=>cR V t::jw V r
end
def xC (W:Int->Nat) (n:Nd) (ks:List Nat):Nat :=
 if n.kind=4/\n.s=cD then gh al n
 else if n.kind=9 then gn (gh al n+ks.headD 0+ks.tail.foldl max 0)
 else if n.kind=4/\0<=bE p n.s then gn (ks.foldl (fun m k=>gn (m+k)) (gh al n)+W (bE p n.s)) else ks.foldl (fun m k=>gn (m+k)) (gh al n)
mutual
def cP (W:Int->Nat):T->Nat
 | .mk n l=>xC p al W n (iF W l)
def iF (W:Int->Nat):List T->List Nat
 | []=>[]
 | t::r=>cP W t::iF W r
end
end
mutual
def wY:T->Bool
 | .mk n l=>n.kind==10 || r9 l
def r9:List T->Bool
 | []=>false
 | t::r=>wY t || r9 r
end
def K2:List Int->List Nat->Prop
 | [],[]=>True
 | v::vs,w::ws=>mR v w/\K2 vs ws
 | _,_=>False
theorem Ex:∀ {vs:List Int} {ws:List Nat} {v:Int} {w:Nat},mR v w->K2 vs ws->mR (vs.foldl dW v) (ws.foldl (fun m k=>gn (m+k)) w)
 | [],[],v,w,h,_=>h
 | x::vs,y::ws,v,w,h,k=>by
  rw [foldl_cons,foldl_cons];exact Ex (rT h k.1) k.2
 | [],_::_,v,w,h,k=>k.elim
 | _::_,[],v,w,h,k=>k.elim
theorem zB (p:Src) (al:Bool) (V:Int->Int):∀ l:List T,(jw p al V l).length=l.length
 | []=>by rw [jw];rfl
 | t::r=>by rw [jw,length_cons,length_cons,zB p al V r]
theorem Jw (p:Src) (al:Bool) (W:Int->Nat):∀ l:List T,(iF p al W l).length=l.length
 | []=>by rw [iF];rfl
 | t::r=>by rw [iF,length_cons,length_cons,Jw p al W r]
section
variable {p:Src} {al:Bool}
theorem Q8 {V:Int->Int} {W:Int->Nat} {n:Nd} {vs:List Int} {ws:List Nat} (h:K2 vs ws) (ma:n.kind≠10) (h9:n.kind=9->vs.length=2\/vs.length=3) (hc:n.kind=4/\0<=bE p n.s->mR (V (bE p n.s)) (W (bE p n.s))):mR (tD p al V n vs) (xC p al W n ws):=by
 have ho:=Rk al n;have hf:=Ex ho h;unfold tD xC
 by_cases I:n.kind=4/\n.s=cD
 ·rw [ae I,ae I];exact ho
 rw [ab I,ab I,ab ma]
 by_cases F:n.kind=9
 ·rw [ae F,ae F];have hl:=h9 F
  match vs,ws,h with
  | [a,b],[c,d],h =>
   have e:=rT (rT ho h.1) (HU h.2.1 Pb)
   have e2:gn (gn (gh al n+c)+max d 0)=gn (gh al n+c+max 0 d):=by unfold gn;omega
   rw [e2] at e;exact e
  | [a,b,x],[c,d,y],h =>
   have e:=rT (rT ho h.1) (HU h.2.1 h.2.2.1)
   have e2:gn (gn (gh al n+c)+max d y)=gn (gh al n+c+max (max 0 d) y):=by unfold gn;omega
   rw [e2] at e;exact e
  | [a,b],[c],h=>exact h.2.elim
  | [a,b],c::d::e::r,h=>exact h.2.2.elim
  | [a,b,x],[c],h=>exact h.2.elim
  | [a,b,x],[c,d],h=>exact h.2.2.elim
  | [a,b,x],c::d::e::f::r,h=>exact h.2.2.2.elim
  | [],_,h=>simp at hl
  | [_],_,h=>simp at hl
  | _::_::_::_::_,_,h=>simp at hl
 rw [ab F,ab F]
 by_cases h3:n.kind=4/\0<=bE p n.s
 ·rw [ae h3,ae h3];exact rT hf (hc h3)
 ·rw [ab h3,ab h3];exact hf
mutual
theorem Gn {V:Int->Int} {W:Int->Nat}:∀ t:T,fo t=true->wY t=false->(∀ g∈iV p t,mR (V g) (W g))->mR (cR p al V t) (cP p al W t)
 | .mk n l,hk,hw,hc=>by
  rw [wY,Bool.or_eq_false_iff] at hw;rw [iV] at hc;rw [fo,aE] at hk;rw [cR,cP]
  refine Q8 (EI l hk.2 hw.2 fun g hg=>hc g (mem_append_right _ hg)) (by simpa using hw.1) (fun h=>?_) fun h=>hc _ (mem_append_left _ (by unfold qt;rw [ae h];exact mem_singleton_self _))
  rw [zB];have:=hk.1;simp [cY,h] at this;omega
theorem EI {V:Int->Int} {W:Int->Nat}:∀ l:List T,qW l=true->r9 l=false->(∀ g∈dS p l,mR (V g) (W g))->K2 (jw p al V l) (iF p al W l)
 | [],_,_,_=>by rw [jw,iF];trivial
 | t::r,hk,hw,hc=>by
  rw [r9,Bool.or_eq_false_iff] at hw;rw [dS] at hc;rw [qW,aE] at hk;rw [jw,iF];exact ⟨Gn t hk.1 hw.1 fun g hg=>hc g (mem_append_left _ hg),EI r hk.2 hw.2 fun g hg=>hc g (mem_append_right _ hg)⟩
end
end
theorem GX:∀ {l:List Int} {v:Int},(v < 0\/∃ x∈l,x < 0)->l.foldl dW v < 0
 | [],v,h=>by
  rcases h with h | ⟨x,h,_⟩
  ·exact h
  ·cases h
 | y::l,v,h=>by
  rw [foldl_cons];refine GX ?_
  rcases h with h | ⟨x,hx,h⟩
  ·left;unfold dW;rw [ae (.inl h)];decide
  ·rcases ei hx with rfl | hx
   ·left;unfold dW;rw [ae (.inr (.inl h))];decide
   ·exact .inr ⟨x,hx,h⟩
theorem mT {a b:Int} (h:a < 0\/b < 0):dW a b < 0:=by unfold dW;split <;> omega
theorem BV {a b:Int} (h:a < 0\/b < 0):qi a b < 0:=by unfold qi;split <;> omega
section
variable {p:Src} {al:Bool}
mutual
theorem tz {V V':Int->Int}:∀ t:T,(∀ g∈iV p t,V g=V' g)->cR p al V t=cR p al V' t
 | .mk n l,h=>by
  rw [iV] at h;rw [cR,cR,Ao l fun g hg=>h g (mem_append_right _ hg)];unfold tD
  by_cases h3:n.kind=4/\0<=bE p n.s
  ·rw [h _ (mem_append_left _ (by unfold qt;rw [ae h3];exact mem_singleton_self _))]
  ·simp only [h3,if_false]
theorem Ao {V V':Int->Int}:∀ l:List T,(∀ g∈dS p l,V g=V' g)->jw p al V l=jw p al V' l
 | [],_=>by rw [jw,jw]
 | t::r,h=>by
  rw [dS] at h;rw [jw,jw,tz t fun g hg=>h g (mem_append_left _ hg),Ao r fun g hg=>h g (mem_append_right _ hg)]
end
mutual
theorem Gm {V:Int->Int} (hr:bE p cD < 0):∀ (t:T) (ls:List ah),fT t->fo t=true->za p t ls->(wY t=true\/∃ g∈iV p t,V g < 0)->cR p al V t < 0
 | .mk n l,ls,wf,hk,ho,h=>by
  have Xk:=wf;rw [fT] at wf;rw [fo,aE] at hk;rw [za] at ho;rw [wY,iV] at h;rw [cR];unfold tD
  by_cases I:n.kind=4/\n.s=cD
  ·exfalso;obtain ⟨k,e1,e2,e3,-,-,-⟩:=KD Xk ho.1 I.1 I.2;have e1:l=[k]:=e1;subst e1;obtain ⟨m,j⟩:=k;have e3:j=[]:=e3;subst e3;have e2:m.kind=2:=e2
   rcases h with h | ⟨g,hg,-⟩
   ·simp [r9,wY,I.1,e2] at h
   ·rw [mem_append,dS,dS,iV,dS] at hg;unfold qt at hg;rw [ab (fun h=>by have:=h.2;rw [I.2] at this;omega),ab (fun h=>by omega)] at hg;simp at hg
  rw [ab I]
  by_cases ma:n.kind=10
  ·rw [ae ma];decide
  rw [ab ma]
  have cB:cS (.mk n l)=false:=by
   unfold cS;show ((n.kind==4&&n.s==cD)&&_)=false;rw [show (n.kind==4&&n.s==cD)=false by simp only [Bool.and_eq_false_iff,beq_eq_false_iff_ne,ne_eq];by_cases h:n.kind=4;(· exact .inr fun e=>I ⟨h,e⟩);exact .inl h];rfl
  have me:(r9 l=true\/∃ g∈dS p l,V g < 0)->∃ v∈jw p al V l,v < 0:=fun h=>EH hr l ls wf.2.2 hk.2 (ho.2 cB) h
  have SA:(∃ v∈jw p al V l,v < 0)\/(n.kind=4/\0<=bE p n.s/\V (bE p n.s) < 0):=by
   rcases h with h | ⟨g,hg,hv⟩
   ·rw [Bool.or_eq_true] at h
    rcases h with h | h
    ·exact absurd (by simpa using h) ma
    ·exact .inl (me (.inl h))
   ·rcases qp hg with hg | hg
    ·unfold qt at hg
     by_cases h3:n.kind=4/\0<=bE p n.s
     ·rw [ae h3,mem_singleton] at hg;subst hg;exact .inr ⟨h3.1,h3.2,hv⟩
     ·rw [ab h3] at hg;cases hg
    ·exact .inl (me (.inr ⟨g,hg,hv⟩))
  by_cases h9:n.kind=9
  ·rw [ae h9]
   have hl:l.length=2\/l.length=3:=by
    have:=hk.1;simp [cY,h9] at this;omega
   rw [<-zB p al V l] at hl
   rcases SA with ⟨v,hv,Oi⟩ | h
   ·generalize jw p al V l=ks at *
    match ks,hl with
    | [a,b],_ =>
     simp only [List.mem_cons,List.not_mem_nil,or_false] at hv
     rcases hv with rfl | rfl
     ·exact mT (.inl (mT (.inr Oi)))
     ·exact mT (.inr (BV (.inl Oi)))
    | [a,b,c],_ =>
     simp only [List.mem_cons,List.not_mem_nil,or_false] at hv
     rcases hv with rfl | rfl | rfl
     ·exact mT (.inl (mT (.inr Oi)))
     ·exact mT (.inr (BV (.inl Oi)))
     ·exact mT (.inr (BV (.inr Oi)))
    | [],hl=>simp at hl
    | [_],hl=>simp at hl
    | _::_::_::_::_,hl=>simp at hl
   ·omega
  rw [ab h9]
  rcases SA with hv | ⟨q1,q2,q3⟩
  ·have hf:=GX (v:=(gh al n:Nat)) (.inr hv);split
   ·exact mT (.inl hf)
   ·exact hf
  ·rw [ae ⟨q1,q2⟩];exact mT (.inr q3)
theorem EH {V:Int->Int} (hr:bE p cD < 0):∀ (l:List T) (ls:List ah),dp l->qW l=true->xF p l ls->(r9 l=true\/∃ g∈dS p l,V g < 0)->∃ v∈jw p al V l,v < 0
 | [],ls,_,_,_,h=>by
  rcases h with h | ⟨g,hg,-⟩
  ·rw [r9] at h;cases h
  ·rw [dS] at hg;cases hg
 | t::r,ls,wf,hk,ho,h=>by
  rw [dp] at wf;rw [qW,aE] at hk;rw [xF] at ho;rw [r9,dS,Bool.or_eq_true] at h;rw [jw]
  have key:(wY t=true\/∃ g∈iV p t,V g < 0)\/(r9 r=true\/∃ g∈dS p r,V g < 0):=by
   rcases h with (h | h) | ⟨g,hg,hv⟩
   ·exact .inl (.inl h)
   ·exact .inr (.inl h)
   ·rcases qp hg with hg | hg
    ·exact .inl (.inr ⟨g,hg,hv⟩)
    ·exact .inr (.inr ⟨g,hg,hv⟩)
  rcases key with h | h
  ·exact ⟨_,List.mem_cons_self,Gm hr t ls wf.1 hk.1 ho.1 h⟩
  ·obtain ⟨v,I,F⟩:=EH hr r _ wf.2 hk.2 ho.2 h;exact ⟨v,cV _ I,F⟩
end
end
theorem Good.WK {p:Src} {l:List T} (h:Good p l):bE p cD < 0:=by
 unfold bE cr
 cases hz:p.fns.findIdx? (fun f=>f.name==cD) with
 | none=>decide
 | some k =>
  exfalso;obtain ⟨I,F,-⟩:=List.findIdx?_eq_some_iff_getElem.1 hz
  have F:p.fns[k].name=cD:=by simpa using F
  have hi:(cL p)[p.globals.length+p.arrays.length+k]?=some cD:=by
   unfold cL fb iO;rw [nk (by rw [aZ,bS];omega),aZ,bS,Nat.add_sub_cancel_left,aV,eF I,Option.map_some,F]
  have hb:=h.names;unfold en at hb;have qR:=(bh hi).1;have:=List.any_eq_false.1 hb _ (List.mem_range.2 qR);apply this;unfold kv;rw [hi];rfl
section
variable (p:Src) (l:List T) (al:Bool)
def Vf:Nat->Int->Int
 | 0,_ => -1
 | N+1,f=>if (a8 p f).contains f=true then -1 else match l[f.toNat]? with | some t=>cR p al (Vf N) t | none => -1
def Wf:Nat->Int->Nat
 | 0,_=>0
 | N+1,f=>match l[f.toNat]? with | some t=>cP p al (Wf N) t | none=>0
def jA (f:Int):Int:=Vf p l al (p.fns.length+1) f
end
section
variable {p:Src} {l:List T} {al:Bool}
theorem iG {i:Nat} {f:Go.Sp.Fn} {t:T} (ct:cU p=true) (h:fq p l i f t) {g:Int} (hg:g∈iV p t):g∈a8 p (i:Int):=by
 have hi:=(bh h.gf).1
 have hh:gI p (i:Int)=true:=by unfold gI;rw [ct,decide_eq_true (show (0:Int)<=(i:Int) by omega),decide_eq_true (show (i:Int) < (p.fns.length:Int) by omega)];rfl
 rw [og hh h];exact vU _ _ _ _ _ (oV.2 hg)
theorem oh {f g:Int} (hg:g∈a8 p f) (hn:g ∉ a8 p g):(a8 p g).length < (a8 p f).length:=by
 have I:(g::a8 p g).Nodup:=List.nodup_cons.2 ⟨hn,eX.nodup⟩
 have:=zZ I (b:=a8 p f) fun x hx=>by
  rcases ei hx with rfl | hx
  ·exact hg
  ·exact mI p f g hg x hx
 rw [length_cons] at this;omega
theorem oS (hg:Good p l) {f x:Int} (h:x∈a8 p f):∃ (i:Nat) (fn:Go.Sp.Fn) (t:T),x=(i:Int)/\fq p l i fn t:=by
 obtain ⟨I,F⟩:=eX.rng x h
 have hi:x.toNat < p.fns.length:=by omega
 have hlen:=hg.len;exact ⟨x.toNat,_,_,by omega,hg.fn (eF hi) (eF (show x.toNat < l.length by omega))⟩
theorem w5 {N:Nat} {f:Int} (h:f∈a8 p f):Vf p l al N f = -1:=by
 cases N with
 | zero=>rfl
 | succ N=>rw [Vf,ae (ej.2 h)]
theorem Ck {N i:Nat} {f:Go.Sp.Fn} {t:T} (h:fq p l i f t) (hn:(i:Int) ∉ a8 p (i:Int)):Vf p l al (N+1) (i:Int)=cR p al (Vf p l al N) t:=by
 rw [Vf,ab (fun h=>hn (ej.1 h)),gA,h.gt]
theorem Jl (ct:cU p=true) (hg:Good p l):∀ (N i:Nat) (f:Go.Sp.Fn) (t:T),fq p l i f t->(a8 p (i:Int)).length < N->Vf p l al N (i:Int)=Vf p l al (N+1) (i:Int)
 | 0,i,f,t,h,hN=>by omega
 | N+1,i,f,t,h,hN=>by
  by_cases kC:(i:Int)∈a8 p (i:Int)
  ·rw [w5 kC,w5 kC]
  rw [Ck h kC,Ck h kC]
  refine tz t fun g lf=>?_
  have il:=iG ct h lf
  by_cases hgg:g∈a8 p g
  ·rw [w5 hgg,w5 hgg]
  ·have ar:=oh il hgg;obtain ⟨j,f',t',rfl,h'⟩:=oS hg il;exact Jl ct hg N j f' t' h' (by omega)
theorem A3 {f:Int} (h:f∈a8 p f):jA p l al f = -1:=w5 h
theorem EG (ct:cU p=true) (hg:Good p l) {i:Nat} {f:Go.Sp.Fn} {t:T} (h:fq p l i f t) (hn:(i:Int) ∉ a8 p (i:Int)):jA p l al (i:Int)=cR p al (jA p l al) t:=by
 have hl:=(eX (p:=p) (fn:=(i:Int))).len;unfold jA;rw [Ck h hn]
 refine tz t fun g lf=>?_
 have il:=iG ct h lf
 by_cases hgg:g∈a8 p g
 ·rw [w5 hgg,w5 hgg]
 ·have ar:=oh il hgg;obtain ⟨j,f',t',rfl,h'⟩:=oS hg il;exact Jl ct hg _ j f' t' h' (by omega)
def ub (p:Src) (l:List T) (f:Int):Prop:=∀ k:Int,(k=f\/k∈a8 p f)->k ∉ a8 p k/\∀ t,l[k.toNat]?=some t->wY t=false
theorem ub.down {f g:Int} (h:ub p l f) (hg:g∈a8 p f):ub p l g:=fun k hk=>h k (.inr (by
 rcases hk with rfl | hk
 ·exact hg
 ·exact mI p f g hg k hk))
theorem CU (hg:Good p l) {i:Nat} {t:T} (ht:l[i]?=some t):fo t=true:=fE.1 hg.st.k t (bm ht)
theorem KK (ct:cU p=true) (hg:Good p l):∀ (N i:Nat) (f:Go.Sp.Fn) (t:T),fq p l i f t->ub p l (i:Int)->(a8 p (i:Int)).length < N->mR (Vf p l al N (i:Int)) (Wf p l al N (i:Int))
 | 0,i,f,t,h,hs,hN=>by omega
 | N+1,i,f,t,h,hs,hN=>by
  obtain ⟨I,F⟩:=hs _ (.inl rfl);rw [Ck h I,Wf,gA,h.gt]
  refine Gn t (CU hg h.gt) (F t (by rw [gA];exact h.gt)) fun g lf=>?_
  have il:=iG ct h lf;have ar:=oh il (hs g (.inr il)).1;obtain ⟨j,f',t',rfl,h'⟩:=oS hg il;exact KK ct hg N j f' t' h' (hs.down il) (by omega)
theorem Lv (ct:cU p=true) (hg:Good p l) {i:Nat} {f:Go.Sp.Fn} {t:T} (h:fq p l i f t) {x:Int} (hx:x∈a8 p (i:Int)):∃ g∈iV p t,x=g\/x∈a8 p g:=by
 have hi:=(bh h.gf).1
 have hh:gI p (i:Int)=true:=by unfold gI;rw [ct,decide_eq_true (show (0:Int)<=(i:Int) by omega),decide_eq_true (show (i:Int) < (p.fns.length:Int) by omega)];rfl
 rw [og hh h] at hx;refine sw (jF p l) (fun x=>∃ g∈iV p t,x=g\/x∈a8 p g) (fun x ⟨g,lf,hx⟩ y hy=>⟨g,lf,.inr ?_⟩) _ 0 _ (fun x hx=>⟨x,oV.1 hx,.inl rfl⟩) x hx;have il:=iG ct h lf
 have fm:∀ z:Int,(∃ (i:Nat) (fn:Go.Sp.Fn) (t:T),z=(i:Int)/\fq p l i fn t)->∀ y∈jF p l z,y∈a8 p z:=by
  rintro _ ⟨j,f',t',rfl,h'⟩ y hy;unfold jF at hy;rw [gA,h'.gt] at hy;exact iG ct h' (oV.1 hy)
 rcases hx with rfl | hx
 ·exact fm _ (oS hg il) y hy
 ·exact mI p g x hx y (fm x (oS hg hx) y hy)
theorem KJ (ct:cU p=true) (hg:Good p l):∀ (N i:Nat) (f:Go.Sp.Fn) (t:T),fq p l i f t->(a8 p (i:Int)).length < N->¬ ub p l (i:Int)->jA p l al (i:Int) < 0
 | 0,i,f,t,h,hN,hs=>by omega
 | N+1,i,f,t,h,hN,hs=>by
  by_cases kC:(i:Int)∈a8 p (i:Int)
  ·rw [A3 kC];decide
  rw [EG ct hg h kC];refine Gm hg.WK t f.params h.wf (CU hg h.gt) h.ok ?_
  by_cases hw:wY t=true
  ·exact .inl hw
  right
  refine Classical.byContradiction fun bX=>hs fun k hk=>?_
  rcases hk with rfl | hk
  ·refine ⟨kC,fun t' th=>?_⟩;rw [gA,h.gt] at th;cases th;simpa using hw
  ·obtain ⟨g,lf,hkg⟩:=Lv ct hg h hk;have il:=iG ct h lf
   have N4:¬ jA p l al g < 0:=fun h=>bX ⟨g,lf,h⟩
   by_cases hgg:g∈a8 p g
   ·rw [A3 hgg] at N4;exact absurd (by decide) N4
   have ar:=oh il hgg;obtain ⟨j,f',t',rfl,h'⟩:=oS hg il
   have bI:ub p l (j:Int):=Classical.byContradiction fun bI=>N4 (KJ ct hg N j f' t' h' (by omega) bI)
   exact bI k hkg
end
theorem zr (a b:Int) : -1<=dW a b:=by unfold dW;split <;> omega
theorem DH:∀ (l:List Int) (v:Int),-1<=v -> -1<=l.foldl dW v
 | [],v,h=>h
 | y::l,v,h=>by rw [foldl_cons];exact DH l _ (zr _ _)
theorem DA (n:Nat):gn n<=1000000001:=Nat.min_le_right _ _
theorem BB:∀ (l:List Nat) (v:Nat),v<=1000000001->l.foldl (fun m k=>gn (m+k)) v<=1000000001
 | [],v,h=>h
 | y::l,v,h=>by rw [foldl_cons];exact BB l _ (DA _)
section
variable {p:Src} {l:List T} {al:Bool}
theorem C6 (n:Nd):gh al n<=1:=by unfold gh;split <;> omega
theorem R9 {V:Int->Int}:∀ t:T,-1<=cR p al V t
 | .mk n l=>by
  rw [cR];unfold tD;split
  ·omega
  ·split
   ·omega
   ·split
    ·exact zr _ _
    ·split
     ·exact zr _ _
     ·exact DH _ _ (by omega)
theorem FQ {W:Int->Nat}:∀ t:T,cP p al W t<=1000000001
 | .mk n l=>by
  have:=C6 (al:=al) n;rw [cP];unfold xC;split
  ·omega
  ·split
   ·exact DA _
   ·split
    ·exact DA _
    ·exact BB _ _ (by omega)
theorem A2 (f:Int) : -1<=jA p l al f:=by
 unfold jA;rw [Vf];split
 ·omega
 ·split
  ·exact R9 _
  ·omega
mutual
theorem vG {W W':Int->Nat}:∀ t:T,(∀ g∈iV p t,W g=W' g)->cP p al W t=cP p al W' t
 | .mk n l,h=>by
  rw [iV] at h;rw [cP,cP,ym l fun g hg=>h g (mem_append_right _ hg)];unfold xC
  by_cases h3:n.kind=4/\0<=bE p n.s
  ·rw [h _ (mem_append_left _ (by unfold qt;rw [ae h3];exact mem_singleton_self _))]
  ·simp only [h3,if_false]
theorem ym {W W':Int->Nat}:∀ l:List T,(∀ g∈dS p l,W g=W' g)->iF p al W l=iF p al W' l
 | [],_=>by rw [iF,iF]
 | t::r,h=>by
  rw [dS] at h;rw [iF,iF,vG t fun g hg=>h g (mem_append_left _ hg),ym r fun g hg=>h g (mem_append_right _ hg)]
end
def cg (p:Src) (l:List T) (al:Bool) (f:Int):Nat:=Wf p l al (p.fns.length+1) f
theorem Jm (ct:cU p=true) (hg:Good p l):∀ (N i:Nat) (f:Go.Sp.Fn) (t:T),fq p l i f t->ub p l (i:Int)->(a8 p (i:Int)).length < N->Wf p l al N (i:Int)=Wf p l al (N+1) (i:Int)
 | 0,i,f,t,h,hs,hN=>by omega
 | N+1,i,f,t,h,hs,hN=>by
  rw [Wf,Wf,gA,h.gt]
  refine vG t fun g lf=>?_
  have il:=iG ct h lf;have ar:=oh il (hs g (.inr il)).1;obtain ⟨j,f',t',rfl,h'⟩:=oS hg il;exact Jm ct hg N j f' t' h' (hs.down il) (by omega)
theorem Nk (ct:cU p=true) (hg:Good p l) {i:Nat} {f:Go.Sp.Fn} {t:T} (h:fq p l i f t) (hs:ub p l (i:Int)):cg p l al (i:Int)=cP p al (cg p l al) t:=by
 have hl:=(eX (p:=p) (fn:=(i:Int))).len;unfold cg;rw [Wf,gA,h.gt]
 refine vG t fun g lf=>?_
 have il:=iG ct h lf;have ar:=oh il (hs g (.inr il)).1;obtain ⟨j,f',t',rfl,h'⟩:=oS hg il;exact Jm ct hg _ j f' t' h' (hs.down il) (by omega)
theorem Gl (f:Int):cg p l al f<=1000000001:=by
 unfold cg;rw [Wf];split
 ·exact FQ _
 ·omega
def qZ (p:Src) (l:List T) (k:Int):Bool:=qN p k k || (match l[k.toNat]? with | some t=>wY t | none=>false)
def zh (p:Src) (l:List T) (f:Int):Bool:=(gx (lU p l [f])).all fun k=>!qZ p l k
theorem Jr (ct:cU p=true) (hg:Good p l) {i:Nat} {f:Go.Sp.Fn} {t:T} (h:fq p l i f t) (x:Int):x∈lU p l [(i:Int)]↔x=(i:Int)\/x∈a8 p (i:Int):=by
 have hi:=(bh h.gf).1
 have fm:jF p l (i:Int)=bY p t:=by unfold jF;rw [gA,h.gt]
 rw [og (tO ct hi) h,<-fm];have ht:Trail p [(i:Int)]:=⟨List.nodup_cons.2 ⟨by simp,List.Pairwise.nil⟩,fun y hy=>by rw [mem_singleton] at hy;omega⟩;have hw:=JA p l (i:Int);have c1:=tq (jF p l) p.fns.length (vY p l) (p.fns.length+1) 0 [(i:Int)] ht.nodup ht.rng (by omega) (fun j x hj=>by omega);have c2:=tq (jF p l) p.fns.length (vY p l) (p.fns.length+1) 0 (jF p l (i:Int)) hw.nodup hw.rng (by omega) (fun j x hj=>by omega);constructor
 ·intro hx;refine sw (jF p l) (fun x=>x=(i:Int)\/x∈lU p l (jF p l (i:Int))) (fun x hx y hy=>?_) _ 0 _ (fun x hx=>.inl (Ek hx)) x hx
  rcases hx with rfl | hx
  ·exact .inr (vU _ _ _ _ _ hy)
  ·exact .inr (c2 x hx y hy)
 ·rintro (rfl | hx)
  ·exact vU _ _ _ _ _ (mem_singleton_self _)
  ·exact sw (jF p l) (fun x=>x∈lU p l [(i:Int)]) (fun x hx y hy=>c1 x hx y hy) _ 0 _ (fun x hx=>c1 _ (vU _ _ _ _ _ (mem_singleton_self _)) x hx) x hx
theorem B5 (ct:cU p=true) (hg:Good p l) {i:Nat} {f:Go.Sp.Fn} {t:T} (h:fq p l i f t):zh p l (i:Int)=true↔ub p l (i:Int):=by
 unfold zh ub;rw [fE]
 have key:∀ k,(!qZ p l k)=true↔(k ∉ a8 p k/\∀ t,l[k.toNat]?=some t->wY t=false):=fun k=>by
  unfold qZ qN;rw [Bool.not_eq_true',Bool.or_eq_false_iff];refine and_congr ?_ ?_
  ·rw [<-Bool.not_eq_true,ej]
  ·cases hl:l[k.toNat]? with
   | none=>simp
   | some t=>simp
 constructor
 ·exact fun I k hk=>(key k).1 (I k (ql.2 ((Jr ct hg h k).2 hk)))
 ·exact fun I k hk=>(key k).2 (I k ((Jr ct hg h k).1 (ql.1 hk)))
theorem Nl (ct:cU p=true) (hg:Good p l) {i:Nat} {f:Go.Sp.Fn} {t:T} (h:fq p l i f t) :
  jA p l al (i:Int)=if zh p l (i:Int)=true then (if 1000000000 < cg p l al (i:Int) then -1 else (cg p l al (i:Int):Int)) else -1:=by
 have hl:=(eX (p:=p) (fn:=(i:Int))).len
 by_cases hs:zh p l (i:Int)=true
 ·rw [ae hs];exact (KK ct hg _ i f t h ((B5 ct hg h).1 hs) (by omega)).2
 ·rw [ab hs];have I:=KJ (al:=al) ct hg _ i f t h (Nat.lt_succ_self _) (fun F=>hs ((B5 ct hg h).2 F));have F:=A2 (p:=p) (l:=l) (al:=al) (i:Int);omega
end
def fH (p:Src) (al:Bool) (fn:Int):Int:=if gI p fn=true then (match jE p.nodes p.fns 0 [] with | some (l,_)=>jA p l al fn | none => -1) else -1
theorem tt {p:Src} {al:Bool} {fn:Int} (h:gI p fn=false):fH p al fn = -1:=by unfold fH;rw [h];rfl
theorem vD {p:Src} {al:Bool} {l:List T} {i:Nat} (hh:gI p (i:Int)=true) (h:Good p l):fH p al (i:Int)=jA p l al (i:Int):=by
 unfold fH;rw [ae hh,h.EA]
theorem Co (p:Src) (al:Bool) (fn:Int) : -1<=fH p al fn:=by
 unfold fH;split
 ·split
  ·exact A2 _
  ·omega
 ·omega
def re (p:Src) (l:List T) (al:Bool) (told:List Int) (g:Int):Int:=if g∈told then jA p l al g else -1
theorem O5 {p:Src} {l:List T} {al:Bool} (ct:cU p=true) (hg:Good p l) {told:List Int} {i:Nat} {f:Go.Sp.Fn} {t:T} (h:fq p l i f t) (hf:pU (a8 p) told (i:Int)=true) (hn:(i:Int) ∉ a8 p (i:Int)) :
  cR p al (re p l al told) t=jA p l al (i:Int):=by
 rw [EG ct hg h hn]
 refine tz t fun g lf=>?_
 have il:=iG ct h lf;unfold re
 rcases (yx.1 hf).1 g il with I | I
 ·rw [ae I]
 ·exfalso
  rcases zd.1 I with F | F
  ·rw [<-F] at il;exact hn il
  ·exact hn (mI p _ _ il _ F.2)
end Go.Im
