/- Part 2 of proofs that are told in their last texts. -/
import Derived.Test.YtcoplmnahnipiaaGreatDoorZ1
open List (all_cons all_eq_true any_eq_true append_assoc append_nil cons_append contains_iff_mem drop_left eq_nil_of_length_eq_zero find?_eq_none flatMap_cons foldl_cons getElem?_map getElem?_take length_append length_cons length_drop length_map length_nil length_take map_map mem_cons_of_mem mem_cons_self mem_of_getElem? mem_singleton nil_append sum_cons tail_cons take_append_drop take_succ_cons take_zero zip_cons_cons)
set_option linter.unusedVariables false
set_option linter.unusedSimpArgs false
set_option maxRecDepth 100000
namespace Go.Xp
open Go.Sp (bh ej)
section
variable {e:Int} {d:Nat} {ts rest:List Tok} {Q:T->Prop} {b:Bool}
theorem S.head {s:S} (ho:s.ok=true) (ht:ts.map kf=s.tk):∃ t r,ts=t::r/\∀ rest,sign (t::rest) 0≠dW/\sign (t::rest) 0≠[125]:=by
 cases s with
 | set s a =>
  rw [S.tk] at ht;obtain ⟨t,r,rfl,h1,_⟩:=map_cons ht;obtain ⟨h1,_⟩:=pg h1;exact ⟨t,r,rfl,fun rest=>⟨hY h1 (by decide),hY h1 (by decide)⟩⟩
 | put s a b =>
  rw [S.tk] at ht;obtain ⟨t,r,rfl,h1,_⟩:=map_cons ht;obtain ⟨h1,_⟩:=pg h1;exact ⟨t,r,rfl,fun rest=>⟨hY h1 (by decide),hY h1 (by decide)⟩⟩
 | if1 c b =>
  rw [S.tk] at ht;obtain ⟨t,r,rfl,h1,_⟩:=map_cons ht;exact ⟨t,r,rfl,fun rest=>by rw [rM h1];decide⟩
 | if2 c b b2 =>
  rw [S.tk] at ht;obtain ⟨t,r,rfl,h1,_⟩:=map_cons ht;exact ⟨t,r,rfl,fun rest=>by rw [rM h1];decide⟩
 | while_ c b =>
  rw [S.tk] at ht;obtain ⟨t,r,rfl,h1,_⟩:=map_cons ht;exact ⟨t,r,rfl,fun rest=>by rw [rM h1];decide⟩
 | ret a =>
  rw [S.tk] at ht;obtain ⟨t,r,rfl,h1,_⟩:=map_cons ht;exact ⟨t,r,rfl,fun rest=>by rw [rM h1];decide⟩
 | var s a =>
  rw [S.tk] at ht;obtain ⟨t,r,rfl,h1,_⟩:=map_cons ht;exact ⟨t,r,rfl,fun rest=>by rw [rM h1];decide⟩
 | do_ a =>
  simp only [S.ok] at ho;obtain ⟨k0,r0,hh,hf⟩:=E.head a ho;rw [S.tk,hh] at ht;obtain ⟨t,r,rfl,h1,_⟩:=map_cons ht;refine ⟨t,r,rfl,fun rest=>?_⟩
  rcases zh (r:=rest) (by rw [h1];exact hf) with h | h | h | h | h <;> (rw [h];decide)
def qs (l:List S):Prop:=∀ (e:Int) (d:Nat) (acc:List T) (ts rest:List Tok) (u:Tok),S.cH l=true->ts.map kf=S.lV l->u.kind=3->u.s=[125] ->
 (S.fits l d=true->∃ ys,aL ys=S.trees l/\Eb e d acc (ts++u::rest) (.ok (acc++ys,rest)))/\(S.fits l d=false->∃ pos,Eb e d acc (ts++u::rest) (.error (9,pos)))
theorem K8:qs []:=by
 intro e d acc ts rest u _ ht hu fk
 have:ts=[]:=by simpa [S.lV] using ht
 subst this;refine ⟨fun _=>⟨[],rfl,1,fun f hf=>?_⟩,fun h=>by simp [S.fits] at h⟩;obtain ⟨f,rfl⟩:∃ g,f=g+1:=⟨f - 1,by omega⟩;rw [rs.body,if_pos (by exact sE hu fk),append_nil];rfl
theorem I6 {a:S} {l:List S} (Ca:qt a) (Cl:qs l):qs (a::l):=by
 intro e d acc ts rest u ho ht hu fk;simp only [S.cH,Bool.and_eq_true] at ho;rw [S.lV] at ht;obtain ⟨A,B,rfl,h3,h4⟩:=cW ht;obtain ⟨t,r,rfl,hh⟩:=S.head ho.1 h3
 have bL:sign (B++u::rest) 0≠dW:=by
  cases l with
  | nil =>
   have:B=[]:=by simpa [S.lV] using h4
   subst this;rw [nil_append,sE hu fk];decide
  | cons a' l' =>
   simp only [S.cH,Bool.and_eq_true] at ho;rw [S.lV] at h4;obtain ⟨A',B',rfl,h5,h6⟩:=cW h4;obtain ⟨t',r',rfl,Zl⟩:=S.head ho.2.1 h5;exact (Zl _).1
 have hx:=Ca e d (t::r) (B++u::rest) ho.1 h3 bL
 have he:t::r++B++u::rest=t::r++(B++u::rest):=by simp
 have hs:sign (t::r++(B++u::rest)) 0≠[125]:=(hh _).2;rw [he,S.fits]
 cases hfa:a.fit d with
 | false =>
  refine ⟨fun hb=>(by simp at hb),fun _=>?_⟩;obtain ⟨pos,f0,h0⟩:=hx.2 hfa;refine ⟨pos,f0+1,fun f hf=>?_⟩;obtain ⟨f,rfl⟩:∃ g,f=g+1:=⟨f - 1,by omega⟩;rw [rs.body,if_neg hs,h0 f (by omega)]
 | true =>
  obtain ⟨ta,k1,f0,h0⟩:=hx.1 hfa;have hl:=Cl e d (acc++[ta]) B rest u ho.2 h4 hu fk;refine ⟨fun hb=>?_,fun hb=>?_⟩
  ·obtain ⟨ys,k3,f1,k4⟩:=hl.1 (by simpa using hb);refine ⟨ta::ys,by rw [aL,k1,k3,S.trees],f0+f1+1,fun f hf=>?_⟩;obtain ⟨f,rfl⟩:∃ g,f=g+1:=⟨f - 1,by omega⟩;rw [rs.body,if_neg hs,h0 f (by omega)];simp only;rw [k4 f (by omega),append_assoc];rfl
  ·obtain ⟨pos,f1,k3⟩:=hl.2 (by simpa using hb);refine ⟨pos,f0+f1+1,fun f hf=>?_⟩;obtain ⟨f,rfl⟩:∃ g,f=g+1:=⟨f - 1,by omega⟩;rw [rs.body,if_neg hs,h0 f (by omega)];exact k3 f (by omega)
theorem qs.blk {l:List S} (C:qs l) {A:List Tok} {u w:Tok} (ho:S.cH l=true) (ht:A.map kf=S.lV l) (hu:u.kind=3) (fk:u.s=[123]) (hw:w.kind=3) (CN:w.s=[125]) :
  Sx e (.block d) (u::(A++w::rest)) rest (fun t=>er t=.mk ⟨14,0,0,[],[]⟩ (S.trees l)) (decide (d<=60)&&S.fits l (d+1)):=by
 have hb:=C e (d+1) [] A rest w ho ht hw CN
 by_cases hd:d<=60
 ·have:(decide (d<=60)&&S.fits l (d+1))=S.fits l (d+1):=by simp [hd]
  rw [this];refine ⟨fun h=>?_,fun h=>?_⟩
  ·obtain ⟨ys,k1,f0,h0⟩:=hb.1 h;refine ⟨one 14 u.at_ [] ys,by show er _=_;rw [dx,k1],f0+1,fun f hf=>?_⟩;obtain ⟨f,rfl⟩:∃ g,f=g+1:=⟨f - 1,by omega⟩;rw [rs,if_neg (by omega),qc hu fk];simp only;rw [h0 f (by omega)];rfl
  ·obtain ⟨pos,f0,h0⟩:=hb.2 h;refine ⟨pos,f0+1,fun f hf=>?_⟩;obtain ⟨f,rfl⟩:∃ g,f=g+1:=⟨f - 1,by omega⟩;rw [rs,if_neg (by omega),qc hu fk];simp only;rw [h0 f (by omega)]
 ·have:(decide (d<=60)&&S.fits l (d+1))=false:=by simp [hd]
  rw [this];exact ⟨fun hb=>(by cases hb),fun _=>⟨_,rl fun f=>by rw [rs,if_pos (by omega)]⟩⟩
theorem wN {j:pU} {x:Rd T} {il:List Tok} {j':pU} {x':Rd T} (h:Es e j ts x) (hs:∀ f,rs e f j ts=x->rs e (f+1) j' il=x'):Es e j' il x':=by
 obtain ⟨f0,h0⟩:=h;refine ⟨f0+1,fun f hf=>?_⟩;obtain ⟨f,rfl⟩:∃ g,f=g+1:=⟨f - 1,by omega⟩;exact hs f (h0 f (by omega))
theorem Ht {j j2:pU} {x x2:Rd T} {il uY:List Tok} {j':pU} {x':Rd T} (h:Es e j ts x) (h2:Es e j2 uY x2) (hs:∀ f,rs e f j ts=x->rs e f j2 uY=x2->rs e (f+1) j' il=x'):Es e j' il x':=by
 obtain ⟨f0,h0⟩:=h;obtain ⟨f1,h1⟩:=h2;refine ⟨f0+f1+1,fun f hf=>?_⟩;obtain ⟨f,rfl⟩:∃ g,f=g+1:=⟨f - 1,by omega⟩;exact hs f (h0 f (by omega)) (h1 f (by omega))
theorem NV (c:E) {l:List S} (C:qs l):qt (.if1 c l):=by
 intro e d ts rest ho ht eP;simp only [S.ok,Bool.and_eq_true] at ho;rw [S.tk] at ht;obtain ⟨v,r,rfl,h1,h2⟩:=map_cons ht;obtain ⟨u,r,rfl,h3,h4⟩:=map_cons h2;obtain ⟨A,r,rfl,h5,h6⟩:=cW h4;obtain ⟨w,r,rfl,h7,h8⟩:=map_cons h6;obtain ⟨x,r,rfl,h9,kF⟩:=map_cons h8;obtain ⟨B,r,rfl,nW,nB⟩:=cW kF;obtain ⟨y,rfl,eB⟩:=gz nB;obtain ⟨h1,cv⟩:=dM h1;obtain ⟨h3,jC⟩:=dM h3;obtain ⟨h7,jS⟩:=dM h7;obtain ⟨h9,CC⟩:=dM h9;obtain ⟨eB,zk⟩:=dM eB
 have he:v::u::(A++w::x::(B++[y]))++rest=v::u::(A++w::(x::(B++y::rest))):=by simp
 have hi:=uB (e:=e) (d:=d+1) (rest:=x::(B++y::rest)) ho.1 h5 h3 jC h7 jS (by simp);have hb:=C.blk (e:=e) (d:=d+1) (rest:=rest) ho.2 nW h9 CC eB zk;have hv:=sE (rest:=u::(A++w::(x::(B++y::rest)))) h1 cv;rw [he,S.fit]
 refine oT fun hd=>?_
 cases hfa:oZ c (d+1) with
 | false =>
  refine ⟨fun hb=>(by simp at hb),fun _=>?_⟩;obtain ⟨pos,k1⟩:=hi.2 hfa;refine ⟨pos,rl fun f=>?_⟩;rw [rs,if_neg (by omega)];simp only;rw [if_neg (by rw [hv];decide),if_pos (.inl hv),tail_cons,k1]
 | true =>
  obtain ⟨tc,k1,k2⟩:=hi.1 hfa;rw [Bool.true_and];refine ⟨fun h=>?_,fun h=>?_⟩
  ·obtain ⟨tb,k3,k4⟩:=hb.1 h;refine ⟨one 9 v.at_ [] [tc,tb],by show er _=_;rw [dx,aL,aL,k1,k3,S.tree];rfl,wN k4 fun f k4=>?_⟩;rw [rs,if_neg (by omega)];simp only;rw [if_neg (by rw [hv];decide),if_pos (.inl hv),tail_cons,k2];simp only;rw [k4];simp only;rw [if_pos hv,if_neg eP];rfl
  ·obtain ⟨pos,k3⟩:=hb.2 h;refine ⟨pos,wN k3 fun f k3=>?_⟩;rw [rs,if_neg (by omega)];simp only;rw [if_neg (by rw [hv];decide),if_pos (.inl hv),tail_cons,k2];simp only;rw [k3]
theorem I8 (c:E) {l:List S} (C:qs l):qt (.while_ c l):=by
 intro e d ts rest ho ht eP;simp only [S.ok,Bool.and_eq_true] at ho;rw [S.tk] at ht;obtain ⟨v,r,rfl,h1,h2⟩:=map_cons ht;obtain ⟨u,r,rfl,h3,h4⟩:=map_cons h2;obtain ⟨A,r,rfl,h5,h6⟩:=cW h4;obtain ⟨w,r,rfl,h7,h8⟩:=map_cons h6;obtain ⟨x,r,rfl,h9,kF⟩:=map_cons h8;obtain ⟨B,r,rfl,nW,nB⟩:=cW kF;obtain ⟨y,rfl,eB⟩:=gz nB;obtain ⟨h1,cv⟩:=dM h1;obtain ⟨h3,jC⟩:=dM h3;obtain ⟨h7,jS⟩:=dM h7;obtain ⟨h9,CC⟩:=dM h9;obtain ⟨eB,zk⟩:=dM eB
 have he:v::u::(A++w::x::(B++[y]))++rest=v::u::(A++w::(x::(B++y::rest))):=by simp
 have hi:=uB (e:=e) (d:=d+1) (rest:=x::(B++y::rest)) ho.1 h5 h3 jC h7 jS (by simp);have hb:=C.blk (e:=e) (d:=d+1) (rest:=rest) ho.2 nW h9 CC eB zk;have hv:=sE (rest:=u::(A++w::(x::(B++y::rest)))) h1 cv;rw [he,S.fit]
 refine oT fun hd=>?_
 cases hfa:oZ c (d+1) with
 | false =>
  refine ⟨fun hb=>(by simp at hb),fun _=>?_⟩;obtain ⟨pos,k1⟩:=hi.2 hfa;refine ⟨pos,rl fun f=>?_⟩;rw [rs,if_neg (by omega)];simp only;rw [if_neg (by rw [hv];decide),if_pos (.inr hv),tail_cons,k1]
 | true =>
  obtain ⟨tc,k1,k2⟩:=hi.1 hfa;rw [Bool.true_and];refine ⟨fun h=>?_,fun h=>?_⟩
  ·obtain ⟨tb,k3,k4⟩:=hb.1 h;refine ⟨one 10 v.at_ [] [tc,tb],by show er _=_;rw [dx,aL,aL,k1,k3,S.tree];rfl,wN k4 fun f k4=>?_⟩;rw [rs,if_neg (by omega)];simp only;rw [if_neg (by rw [hv];decide),if_pos (.inr hv),tail_cons,k2];simp only;rw [k4];simp only;rw [if_neg (by rw [hv];decide)];rfl
  ·obtain ⟨pos,k3⟩:=hb.2 h;refine ⟨pos,wN k3 fun f k3=>?_⟩;rw [rs,if_neg (by omega)];simp only;rw [if_neg (by rw [hv];decide),if_pos (.inr hv),tail_cons,k2];simp only;rw [k3]
theorem NW (c:E) {l l2:List S} (C:qs l) (C2:qs l2):qt (.if2 c l l2):=by
 intro e d ts rest ho ht eP;simp only [S.ok,Bool.and_eq_true] at ho;rw [S.tk] at ht;obtain ⟨v,r,rfl,h1,h2⟩:=map_cons ht;obtain ⟨u,r,rfl,h3,h4⟩:=map_cons h2;obtain ⟨A,r,rfl,h5,h6⟩:=cW h4;obtain ⟨w,r,rfl,h7,h8⟩:=map_cons h6;obtain ⟨x,r,rfl,h9,kF⟩:=map_cons h8;obtain ⟨B,r,rfl,nW,nB⟩:=cW kF;obtain ⟨y,r,rfl,eB,z8⟩:=map_cons nB;obtain ⟨z,r,rfl,Tn,YR⟩:=map_cons z8;obtain ⟨x2,r,rfl,To,YS⟩:=map_cons YR;obtain ⟨B2,r,rfl,YT,YU⟩:=cW YS;obtain ⟨y2,rfl,HF⟩:=gz YU;obtain ⟨h1,cv⟩:=dM h1;obtain ⟨h3,jC⟩:=dM h3;obtain ⟨h7,jS⟩:=dM h7;obtain ⟨h9,CC⟩:=dM h9;obtain ⟨eB,zk⟩:=dM eB;obtain ⟨Tn,Xu⟩:=dM Tn;obtain ⟨To,Xv⟩:=dM To;obtain ⟨HF,Xy⟩:=dM HF
 have he:v::u::(A++w::x::(B++y::z::x2::(B2++[y2])))++rest=v::u::(A++w::(x::(B++y::(z::(x2::(B2++y2::rest)))))):=by simp
 have hi:=uB (e:=e) (d:=d+1) (rest:=x::(B++y::(z::(x2::(B2++y2::rest))))) ho.1 h5 h3 jC h7 jS (by simp);have hb:=C.blk (e:=e) (d:=d+1) (rest:=z::(x2::(B2++y2::rest))) ho.2.1 nW h9 CC eB zk;have eC:=C2.blk (e:=e) (d:=d+1) (rest:=rest) ho.2.2 YT To Xv HF Xy;have hv:=sE (rest:=u::(A++w::(x::(B++y::(z::(x2::(B2++y2::rest))))))) h1 cv;have hz:=sE (rest:=x2::(B2++y2::rest)) Tn Xu;rw [he,S.fit]
 refine oT fun hd=>?_
 cases hfa:oZ c (d+1) with
 | false =>
  refine ⟨fun hb=>(by simp at hb),fun _=>?_⟩;obtain ⟨pos,k1⟩:=hi.2 hfa;refine ⟨pos,rl fun f=>?_⟩;rw [rs,if_neg (by omega)];simp only;rw [if_neg (by rw [hv];decide),if_pos (.inl hv),tail_cons,k1]
 | true =>
  obtain ⟨tc,k1,k2⟩:=hi.1 hfa;rw [Bool.true_and]
  cases hfb:(decide (d+1<=60)&&S.fits l (d+2)) with
  | false =>
   refine ⟨fun hb=>(by simp at hb),fun _=>?_⟩;obtain ⟨pos,k3⟩:=hb.2 hfb;refine ⟨pos,wN k3 fun f k3=>?_⟩;rw [rs,if_neg (by omega)];simp only;rw [if_neg (by rw [hv];decide),if_pos (.inl hv),tail_cons,k2];simp only;rw [k3]
  | true =>
   obtain ⟨tb,k3,k4⟩:=hb.1 hfb;rw [Bool.true_and];refine ⟨fun h=>?_,fun h=>?_⟩
   ·obtain ⟨tb2,k5,k6⟩:=eC.1 h;refine ⟨one 9 v.at_ [] [tc,tb,tb2],by show er _=_;rw [dx,aL,aL,aL,k1,k3,k5,S.tree];rfl,Ht k4 k6 fun f k4 k6=>?_⟩;rw [rs,if_neg (by omega)];simp only;rw [if_neg (by rw [hv];decide),if_pos (.inl hv),tail_cons,k2];simp only;rw [k4];simp only;rw [if_pos hv,if_pos hz,tail_cons,k6];rfl
   ·obtain ⟨pos,k5⟩:=eC.2 h;refine ⟨pos,Ht k4 k5 fun f k4 k5=>?_⟩;rw [rs,if_neg (by omega)];simp only;rw [if_neg (by rw [hv];decide),if_pos (.inl hv),tail_cons,k2];simp only;rw [k4];simp only;rw [if_pos hv,if_pos hz,tail_cons,k5]
end
mutual
theorem coreS:∀ (s:S),qt s
 | .set s a=>N0 s a
 | .put s a b=>NY s a b
 | .if1 c b=>NV c (xJ b)
 | .if2 c b b2=>NW c (xJ b) (xJ b2)
 | .while_ c b=>I8 c (xJ b)
 | .ret a=>NZ a
 | .do_ a=>Rm a
 | .var s a=>N1 s a
theorem xJ:∀ (l:List S),qs l
 | []=>K8
 | a::l=>I6 (coreS a) (xJ l)
end
def I2 (l:List S):List K:=kS [123]::(S.lV l++[kS [125]])
def bC (l:List S):T:=.mk ⟨14,0,0,[],[]⟩ (S.trees l)
def eh (l:List S) (d:Nat):Bool:=decide (d<=60)&&S.fits l (d+1)
theorem Wp (e:Int):∀ f,(∀ j ts,rs e f j ts=.error aV\/rs e (f+1) j ts=rs e f j ts)/\(∀ d acc ts,rs.body e f d acc ts=.error aV\/rs.body e (f+1) d acc ts=rs.body e f d acc ts):=by
 intro f
 induction f with
 | zero=>exact ⟨fun j ts=>.inl (by simp [rs]),fun d acc ts=>.inl (by simp [rs.body])⟩
 | succ f ih =>
  obtain ⟨i1,i2⟩:=ih;refine ⟨fun j ts=>?_,fun d acc ts=>?_⟩
  ·cases j with
   | block d =>
    rw [rs,rs];split
    ·exact .inr rfl
    ·cases aI e [123] ts with
     | error x=>exact .inr rfl
     | ok r =>
      simp only
      rcases i2 (d+1) [] r with h | h
      ·left;rw [h]
      ·rw [h];exact .inr rfl
   | stmt d =>
    rw [rs,rs];split
    ·exact .inr rfl
    ·simp only;split
     ·exact .inr rfl
     ·split
      ·cases inner e (d+1) [40] [41] ts.tail with
       | error x=>exact .inr rfl
       | ok y =>
        obtain ⟨c,r⟩:=y;simp only
        rcases i1 (.block (d+1)) r with h | h
        ·left;rw [h]
        ·rw [h]
         cases rs e f (.block (d+1)) r with
         | error x=>exact .inr rfl
         | ok y =>
          obtain ⟨b,r⟩:=y;simp only;split
          ·split
           ·rcases i1 (.block (d+1)) r.tail with h | h
            ·left;rw [h]
            ·rw [h];exact .inr rfl
           ·exact .inr rfl
          ·exact .inr rfl
      ·exact .inr rfl
  ·rw [rs.body,rs.body];split
   ·exact .inr rfl
   ·rcases i1 (.stmt d) ts with h | h
    ·left;rw [h]
    ·rw [h]
     cases rs e f (.stmt d) ts with
     | error x=>exact .inr rfl
     | ok y=>exact i2 _ _ _
theorem Se {e:Int} {f f':Nat} {j:pU} {ts:List Tok} (h:rs e f j ts≠.error aV) (hf:f<=f'):rs e f' j ts=rs e f j ts:=by
 obtain ⟨k,rfl⟩:=Nat.exists_eq_add_of_le hf;clear hf
 induction k with
 | zero=>rfl
 | succ k ih =>
  rcases (Wp e (f+k)).1 j ts with h1 | h1
  ·rw [ih] at h1;exact absurd h1 h
  ·rw [<-Nat.add_assoc,h1,ih]
theorem DR {l:List S} {e:Int} {d:Nat} {ts rest:List Tok} (ho:S.cH l=true) (ht:ts.map kf=I2 l) :
  (eh l d=true->∃ t,er t=bC l/\block e d (ts++rest)=.ok (t,rest))/\(eh l d=false->∃ pos,block e d (ts++rest)=.error (9,pos)):=by
 obtain ⟨u,r,rfl,h1,h2⟩:=map_cons ht;obtain ⟨A,r,rfl,h3,h4⟩:=cW h2;obtain ⟨w,rfl,h5⟩:=gz h4;obtain ⟨h1,cv⟩:=dM h1;obtain ⟨h5,Qo⟩:=dM h5;have hb:=(xJ l).blk (e:=e) (d:=d) (rest:=rest) ho h3 h1 cv h5 Qo
 have he:u::(A++[w])++rest=u::(A++w::rest):=by simp
 rw [he]
 have key:∀ {x:Rd T},Es e (.block d) (u::(A++w::rest)) x->block e d (u::(A++w::rest))=x:=by
  rintro x ⟨f0,h0⟩;have bL:rs e (lM (u::(A++w::rest))) (.block d) (u::(A++w::rest))≠.error aV:=va;have:=Se bL (Nat.le_add_left _ f0);rw [h0 _ (by omega)] at this;exact this.symm
 exact ⟨fun h=>by obtain ⟨t,k1,k2⟩:=hb.1 h;exact ⟨t,k1,key k2⟩,fun h=>by obtain ⟨pos,k1⟩:=hb.2 h;exact ⟨pos,key k1⟩⟩
end Go.Xp
namespace Go.Xp
open Go.Sp (bh ej cU bP bH own lS fS be)
def yg (n:Int):Int:=if n % 4294967296 > 2147483647 then n % 4294967296 - 4294967296 else n % 4294967296
def cm (n:Nat):ai:=if h:n < 10 then [UInt8.ofNat (48+n)] else cm (n / 10)++[UInt8.ofNat (48+n % 10)]
termination_by n
decreasing_by omega
theorem oq (n:Nat):(cm n).length<=n+1:=by
 induction n using Nat.strongRecOn with
 | _ n ih =>
 unfold cm
 by_cases h:n < 10
 ·rw [dif_pos h];simp
 ·rw [dif_neg h,length_append];have:=ih (n / 10) (by omega);simp;omega
def bx:List ai->ai
 | []=>[]
 | x::r=>x++r.flatMap fun y=>44::32::y
theorem AA {l:List ai} (h:l≠[]) (x:ai):bx (l++[x])=(bx l++[44,32])++x:=by
 cases l with
 | nil=>exact absurd rfl h
 | cons a l=>simp [bx,List.flatMap_append]
theorem vt (l:List ai) (k:Nat):(bx (l.take k)).length<=(bx l).length:=by
 cases l with
 | nil=>simp
 | cons a l =>
  cases k with
  | zero=>simp [bx]
  | succ k =>
   simp only [take_succ_cons,bx,length_append]
   have:∀ (l:List ai) (k:Nat),((l.take k).flatMap fun y=>(44:UInt8)::32::y).length<=(l.flatMap fun y=>(44:UInt8)::32::y).length:=by
    intro l
    induction l with
    | nil=>intro k;simp
    | cons b l ih=>intro k;cases k with
     | zero=>simp
     | succ k=>simp only [take_succ_cons,flatMap_cons,length_append];have:=ih k;omega
   have:=this l k;omega
def pH (lv k:Nat) (x:ai):ai:=if lv < k then (40::x)++[41] else x
mutual
def E.txt:E->ai
 | .num n=>cm n.toNat
 | .name s=>s
 | .at_ s a=>((s++[91])++a.txt)++[93]
 | .call s l=>((s++[40])++bx (E.cB l))++[41]
 | .un s a=>(s++[32])++pH a.lv 9 a.txt
 | .bin s a b=>(((pH a.lv (dF s) a.txt++[32])++s)++[32])++pH b.lv (dF s+1) b.txt
def E.cB:List E->List ai
 | []=>[]
 | a::l=>a.txt::E.cB l
end
mutual
def E.full:E->ai
 | .num n=>cm n.toNat
 | .name s=>s
 | .at_ s a=>((s++[91])++a.full)++[93]
 | .call s l=>((s++[40])++bx (E.ry l))++[41]
 | .un s a=>((40::s)++a.full)++[41]
 | .bin s a b=>(((((40::a.full)++[32])++s)++[32])++b.full)++[41]
def E.ry:List E->List ai
 | []=>[]
 | a::l=>a.full::E.ry l
end
theorem E.PU (l:List E):E.cB l=l.map E.txt:=by
 induction l with
 | nil=>rfl
 | cons a l ih=>rw [E.cB,ih];rfl
theorem E.LC (l:List E):E.ry l=l.map E.full:=by
 induction l with
 | nil=>rfl
 | cons a l ih=>rw [E.ry,ih];rfl
def E.out (least:Bool) (a:E):ai:=if least then a.txt else a.full
mutual
def S.txt (x:E->ai):S->ai
 | .set s a=>((s++[32,61,32])++x a)++[59]
 | .put s a b=>((((s++[91])++x a)++[93,32,61,32])++x b)++[59]
 | .if1 c b=>(([105,102,32,40]++x c)++[41,32])++(S.cB x [123,32] b++[125])
 | .if2 c b b2=>(((([105,102,32,40]++x c)++[41,32])++(S.cB x [123,32] b++[125]))++[32,101,108,115,101,32])++(S.cB x [123,32] b2++[125])
 | .while_ c b=>(([119,104,105,108,101,32,40]++x c)++[41,32])++(S.cB x [123,32] b++[125])
 | .ret a=>([114,101,116,117,114,110,32]++x a)++[59]
 | .do_ a=>x a++[59]
 | .var s a=>((([118,97,114,32]++s)++[32,61,32])++x a)++[59]
def S.cB (x:E->ai):ai->List S->ai
 | acc,[]=>acc
 | acc,a::l=>S.cB x ((acc++a.txt x)++[32]) l
end
def eM (x:E->ai) (l:List S):ai:=S.cB x [123,32] l++[125]
theorem G8 (n:Nd) (l:List T):cU (.mk n l)=(bP l&&bH (.mk n l)):=by rw [cU]
theorem sS {l:List T} (h:bP l=true) {t:T} (ht:t∈l):cU t=true:=by
 induction l with
 | nil=>cases ht
 | cons a l ih =>
  rw [bP,Bool.and_eq_true] at h
  rcases List.mem_cons.1 ht with rfl | ht
  ·exact h.1
  ·exact ih h.2 ht
theorem lB (n:Nd) (l:List T):er (.mk n l)=.mk ⟨n.kind,0,n.n,n.s,[]⟩ (aL l):=by rw [er]
theorem gV {l:List T} {m i:Nat} (h:be m i l=true):∀ (j:Nat) t,l[j]?=some t->(if i+j < m then lS t.n.kind else t.n.kind==14)=true:=by
 induction l generalizing i with
 | nil=>intro j t h;simp at h
 | cons a l ih =>
  rw [be,Bool.and_eq_true] at h;intro j t hj
  cases j with
  | zero=>cases hj;exact h.1
  | succ j=>have:=ih h.2 j t (by simpa using hj);rw [show i+(j+1)=i+1+j by omega];exact this
theorem D4:∀ (l:List T),(∀ t∈l,∃ a:E,a.ok=true/\er t=a.tree)->∃ es:List E,E.cH es=true/\aL l=E.trees es
 | [],_=>⟨[],rfl,rfl⟩
 | t::l,h=>by
  obtain ⟨a,h1,h2⟩:=h t (mem_cons_self);obtain ⟨es,h3,h4⟩:=D4 l (fun t ht=>h t (mem_cons_of_mem _ ht));exact ⟨a::es,by simp [E.cH,h1,h3],by rw [aL,E.trees,h2,h4]⟩
theorem toE:∀ (sz:Nat) (t:T),sizeOf t<=sz->cU t=true->lS t.n.kind=true->∃ a:E,a.ok=true/\er t=a.tree:=by
 intro sz
 induction sz with
 | zero=>intro t h;cases t;simp at h
 | succ sz ih =>
  intro t cK ha hk;obtain ⟨n,l⟩:=t;rw [G8,Bool.and_eq_true] at ha;obtain ⟨ha,ho⟩:=ha
  have pe:∀ t∈l,lS t.n.kind=true->∃ a:E,a.ok=true/\er t=a.tree:=fun t ht hk=>by
   have:=List.sizeOf_lt_of_mem ht;exact ih t (by simp at cK;omega) (sS ha ht) hk
  obtain ⟨k,at_,v,s,ks⟩:=n
  have hk:(1:Int)<=k/\k<=6:=by
   simp only [lS,T.n,Bool.and_eq_true] at hk;exact ⟨of_decide_eq_true hk.1,of_decide_eq_true hk.2⟩
  simp only [bH,own,T.n,T.kids] at ho
  obtain rfl | rfl | rfl | rfl | rfl | rfl:k=1\/k=2\/k=3\/k=4\/k=5\/k=6:=by omega
  ·simp at ho;obtain ⟨h1,h2,h3,h4,h5⟩:=ho;subst h4 h5;exact ⟨.num v,by simp only [E.ok,Bool.and_eq_true];exact ⟨h2,h3⟩,by rw [lB,E.tree];rfl⟩
  ·simp at ho;obtain ⟨h1,h2,h3,h4⟩:=ho;subst h2 h4;exact ⟨.name s,by simp [E.ok,h3],by rw [lB,E.tree];rfl⟩
  ·simp at ho;obtain ⟨h1,h2,h3,h4,h5⟩:=ho;subst h2
   match l,h4 with
   | [t],_ =>
    have wg:=gV h5 0 t rfl;obtain ⟨a,h6,h7⟩:=pe t (by simp) (by simpa using wg);exact ⟨.at_ s a,by simp [E.ok,h3,h6],by rw [lB,E.tree,aL,h7];rfl⟩
  ·simp at ho;obtain ⟨h1,h2,h3,h5⟩:=ho;subst h2
   obtain ⟨es,h6,h7⟩:=D4 l fun t ht=>pe t ht (by
    obtain ⟨j,hj⟩:=List.mem_iff_getElem?.1 ht;have ar:=(List.getElem?_eq_some_iff.1 hj).1;have:=gV h5 j t hj
    rw [if_pos (by omega)] at this;exact this)
   exact ⟨.call s es,by simp [E.ok,h3,h6],by rw [lB,E.tree,h7]⟩
  ·simp at ho;obtain ⟨h1,h2,h3,h4,h5⟩:=ho;subst h2
   match l,h4 with
   | [t],_ =>
    have wg:=gV h5 0 t rfl;obtain ⟨a,h6,h7⟩:=pe t (by simp) (by simpa using wg);exact ⟨.un s a,by simp only [E.ok,h6,Bool.and_true,Bool.or_eq_true,beq_iff_eq];exact h3,by rw [lB,E.tree,aL,h7];rfl⟩
  ·simp at ho;obtain ⟨h1,h2,h3,h4,h5⟩:=ho;subst h2
   match l,h4 with
   | [t,u],_ =>
    have wg:=gV h5 0 t rfl;have Zo:=gV h5 1 u rfl;obtain ⟨a,h6,h7⟩:=pe t (by simp) (by simpa using wg);obtain ⟨b,h8,h9⟩:=pe u (by simp) (by simpa using Zo);exact ⟨.bin s a b,by simp [E.ok,h3,h6,h8],by rw [lB,E.tree,aL,aL,h7,h9];rfl⟩
end Go.Xp
namespace Go.Xp
open Go.Sp (bh ej cU bP bH own lS fS be)
theorem FN:∀ (l:List T),(∀ t∈l,∃ a:S,a.ok=true/\er t=a.tree)->∃ es:List S,S.cH es=true/\aL l=S.trees es
 | [],_=>⟨[],rfl,rfl⟩
 | t::l,h=>by
  obtain ⟨a,h1,h2⟩:=h t (mem_cons_self);obtain ⟨es,h3,h4⟩:=FN l (fun t ht=>h t (mem_cons_of_mem _ ht));exact ⟨a::es,by simp [S.cH,h1,h3],by rw [aL,S.trees,h2,h4]⟩
theorem toS:∀ (sz:Nat) (t:T),sizeOf t<=sz->cU t=true->(fS t.n.kind=true->∃ a:S,a.ok=true/\er t=a.tree)/\(t.n.kind=14->∃ l:List S,S.cH l=true/\er t=bC l):=by
 intro sz
 induction sz with
 | zero=>intro t h;cases t;simp at h
 | succ sz ih =>
  intro t cK ha;obtain ⟨n,l⟩:=t;rw [G8,Bool.and_eq_true] at ha;obtain ⟨ha,ho⟩:=ha
  have hex:∀ t∈l,lS t.n.kind=true->∃ a:E,a.ok=true/\er t=a.tree:=fun t ht hk=>toE _ t (Nat.le_refl _) (sS ha ht) hk
  have dq:∀ t∈l,t.n.kind=14->∃ l:List S,S.cH l=true/\er t=bC l:=fun t ht hk=>by
   have:=List.sizeOf_lt_of_mem ht;exact (ih t (by simp at cK;omega) (sS ha ht)).2 hk
  have b6:∀ t∈l,fS t.n.kind=true->∃ a:S,a.ok=true/\er t=a.tree:=fun t ht hk=>by
   have:=List.sizeOf_lt_of_mem ht;exact (ih t (by simp at cK;omega) (sS ha ht)).1 hk
  obtain ⟨k,at_,v,s,ks⟩:=n;simp only [bH,own,T.n,T.kids] at ho;refine ⟨fun hk=>?_,fun hk=>?_⟩
  ·have hk:(7:Int)<=k/\k<=13:=by
    simp only [fS,T.n,Bool.and_eq_true] at hk;exact ⟨of_decide_eq_true hk.1,of_decide_eq_true hk.2⟩
   obtain rfl | rfl | rfl | rfl | rfl | rfl | rfl:k=7\/k=8\/k=9\/k=10\/k=11\/k=12\/k=13:=by omega
   ·simp at ho;obtain ⟨h1,h2,h3,h4,h5⟩:=ho;subst h2
    match l,h4 with
    | [t],_ =>
     obtain ⟨a,h6,h7⟩:=hex t (by simp) (by simpa using gV h5 0 t rfl);exact ⟨.set s a,by simp [S.ok,h3,h6],by rw [lB,S.tree,aL,h7];rfl⟩
   ·simp at ho;obtain ⟨h1,h2,h3,h4,h5⟩:=ho;subst h2
    match l,h4 with
    | [t,u],_ =>
     obtain ⟨a,h6,h7⟩:=hex t (by simp) (by simpa using gV h5 0 t rfl);obtain ⟨b,h8,h9⟩:=hex u (by simp) (by simpa using gV h5 1 u rfl);exact ⟨.put s a b,by simp [S.ok,h3,h6,h8],by rw [lB,S.tree,aL,aL,h7,h9];rfl⟩
   ·simp at ho;obtain ⟨h1,h2,h3,h4,h5⟩:=ho;subst h2 h3
    rcases h4 with h4 | h4
    ·match l,h4 with
     | [t,u],_ =>
      obtain ⟨a,h6,h7⟩:=hex t (by simp) (by simpa using gV h5 0 t rfl);obtain ⟨b,h8,h9⟩:=dq u (by simp) (by simpa using gV h5 1 u rfl);exact ⟨.if1 a b,by simp [S.ok,h6,h8],by rw [lB,S.tree,aL,aL,h7,h9];rfl⟩
    ·match l,h4 with
     | [t,u,w],_ =>
      obtain ⟨a,h6,h7⟩:=hex t (by simp) (by simpa using gV h5 0 t rfl);obtain ⟨b,h8,h9⟩:=dq u (by simp) (by simpa using gV h5 1 u rfl);obtain ⟨c,kF,nW⟩:=dq w (by simp) (by simpa using gV h5 2 w rfl);exact ⟨.if2 a b c,by simp [S.ok,h6,h8,kF],by rw [lB,S.tree,aL,aL,aL,h7,h9,nW];rfl⟩
   ·simp at ho;obtain ⟨h1,h2,h3,h4,h5⟩:=ho;subst h2 h3
    match l,h4 with
    | [t,u],_ =>
     obtain ⟨a,h6,h7⟩:=hex t (by simp) (by simpa using gV h5 0 t rfl);obtain ⟨b,h8,h9⟩:=dq u (by simp) (by simpa using gV h5 1 u rfl);exact ⟨.while_ a b,by simp [S.ok,h6,h8],by rw [lB,S.tree,aL,aL,h7,h9];rfl⟩
   ·simp at ho;obtain ⟨h1,h2,h3,h4,h5⟩:=ho;subst h2 h3
    match l,h4 with
    | [t],_ =>
     obtain ⟨a,h6,h7⟩:=hex t (by simp) (by simpa using gV h5 0 t rfl);exact ⟨.ret a,by simp [S.ok,h6],by rw [lB,S.tree,aL,h7];rfl⟩
   ·simp at ho;obtain ⟨h1,h2,h3,h4,h5⟩:=ho;subst h2 h3
    match l,h4 with
    | [t],_ =>
     obtain ⟨a,h6,h7⟩:=hex t (by simp) (by simpa using gV h5 0 t rfl);exact ⟨.do_ a,by simp [S.ok,h6],by rw [lB,S.tree,aL,h7];rfl⟩
   ·simp at ho;obtain ⟨h1,h2,h3,h4,h5⟩:=ho;subst h2
    match l,h4 with
    | [t],_ =>
     obtain ⟨a,h6,h7⟩:=hex t (by simp) (by simpa using gV h5 0 t rfl);exact ⟨.var s a,by simp [S.ok,h3,h6],by rw [lB,S.tree,aL,h7];rfl⟩
  ·simp only [T.n] at hk;subst hk;simp at ho;obtain ⟨h1,h2,h3,h4⟩:=ho;subst h2 h4
   obtain ⟨es,h5,h6⟩:=FN l fun t ht=>b6 t ht (h3 t ht)
   exact ⟨es,h5,by rw [lB,bC,h6]⟩
theorem toB {t:T} (h:cU t=true) (hk:t.n.kind=14):∃ l:List S,S.cH l=true/\er t=bC l:=(toS _ t (Nat.le_refl _) h).2 hk
mutual
def wt:T->Nat
 | .mk n l=>30+n.s.length+ey l
def ey:List T->Nat
 | []=>0
 | t::l=>wt t+ey l
end
mutual
theorem Q7:∀ t:T,wt (er t)=wt t
 | .mk n l=>by rw [er,wt,wt,IL l]
theorem IL:∀ l:List T,ey (aL l)=ey l
 | []=>rfl
 | t::l=>by rw [aL,ey,ey,Q7 t,IL l]
end
theorem Hj:∀ (k n:Nat),n < 10 ^ (k+1)->(cm n).length<=k+1:=by
 intro k
 induction k with
 | zero=>intro n h;unfold cm;rw [dif_pos (by omega)];simp
 | succ k ih =>
  intro n h;unfold cm;split
  ·simp
  ·rw [length_append];have:=ih (n / 10) (by rw [Nat.pow_succ] at h;omega);simp;omega
theorem rF (lv k:Nat) (x:ai):(pH lv k x).length<=x.length+2:=by unfold pH;split <;> simp
mutual
theorem E.len:∀ a:E,a.ok=true->a.txt.length+4<=wt a.tree/\a.full.length+4<=wt a.tree
 | .num n,h=>by
  simp only [E.ok,Bool.and_eq_true] at h;have h1:=of_decide_eq_true h.1;have h2:=of_decide_eq_true h.2;have:=Hj 9 n.toNat (by omega);rw [E.txt,E.full,E.tree,wt];simp only [length_nil,ey];omega
 | .name s,h=>by rw [E.txt,E.full,E.tree,wt];simp only [ey];omega
 | .at_ s a,h=>by
  simp only [E.ok,Bool.and_eq_true] at h;have:=E.len a h.2;rw [E.txt,E.full,E.tree,wt];simp only [ey,length_append,length_cons,length_nil];omega
 | .call s l,h=>by
  simp only [E.ok,Bool.and_eq_true] at h;have:=E.lens l h.2;rw [E.txt,E.full,E.tree,wt];simp only [length_append,length_cons,length_nil];omega
 | .un s a,h=>by
  simp only [E.ok,Bool.and_eq_true] at h;have:=E.len a h.2;have:=rF a.lv 9 a.txt;rw [E.txt,E.full,E.tree,wt];simp only [ey,length_append,length_cons,length_nil];omega
 | .bin s a b,h=>by
  simp only [E.ok,Bool.and_eq_true] at h;have:=E.len a h.1.2;have:=E.len b h.2;have:=rF a.lv (dF s) a.txt;have:=rF b.lv (dF s+1) b.txt;rw [E.txt,E.full,E.tree,wt];simp only [ey,length_append,length_cons,length_nil];omega
theorem E.lens:∀ l:List E,E.cH l=true->(bx (E.cB l)).length<=ey (E.trees l)/\(bx (E.ry l)).length<=ey (E.trees l)
 | [],_=>⟨Nat.zero_le _,Nat.zero_le _⟩
 | a::l,h=>by
  simp only [E.cH,Bool.and_eq_true] at h;have h1:=E.len a h.1;have h2:=E.lens l h.2;rw [E.cB,E.ry,E.trees,ey]
  have key:∀ (x:ai) (l:List ai),(bx (x::l)).length<=x.length+2+(bx l).length:=by
   intro x l
   cases l with
   | nil=>simp [bx]
   | cons y l=>simp [bx];omega
  have:=key a.txt (E.cB l);have:=key a.full (E.ry l);omega
end
mutual
theorem S.len (x:E->ai) (hx:∀ a:E,a.ok=true->(x a).length+4<=wt a.tree):∀ s:S,s.ok=true->(s.txt x).length+4<=wt s.tree
 | .set s a,h=>by
  simp only [S.ok,Bool.and_eq_true] at h;have:=hx a h.2;rw [S.txt,S.tree,wt];simp only [ey,length_append,length_cons,length_nil];omega
 | .put s a b,h=>by
  simp only [S.ok,Bool.and_eq_true] at h;have:=hx a h.2.1;have:=hx b h.2.2;rw [S.txt,S.tree,wt];simp only [ey,length_append,length_cons,length_nil];omega
 | .if1 c b,h=>by
  simp only [S.ok,Bool.and_eq_true] at h;have:=hx c h.1;have:=S.lens x hx b h.2 [123,32];rw [S.txt,S.tree,wt];simp only [ey,wt,length_append,length_cons,length_nil] at *;omega
 | .if2 c b b2,h=>by
  simp only [S.ok,Bool.and_eq_true] at h;have:=hx c h.1;have:=S.lens x hx b h.2.1 [123,32];have:=S.lens x hx b2 h.2.2 [123,32];rw [S.txt,S.tree,wt];simp only [ey,wt,length_append,length_cons,length_nil] at *;omega
 | .while_ c b,h=>by
  simp only [S.ok,Bool.and_eq_true] at h;have:=hx c h.1;have:=S.lens x hx b h.2 [123,32];rw [S.txt,S.tree,wt];simp only [ey,wt,length_append,length_cons,length_nil] at *;omega
 | .ret a,h=>by
  simp only [S.ok] at h;have:=hx a h;rw [S.txt,S.tree,wt];simp only [ey,length_append,length_cons,length_nil];omega
 | .do_ a,h=>by
  simp only [S.ok] at h;have:=hx a h;rw [S.txt,S.tree,wt];simp only [ey,length_append,length_cons,length_nil];omega
 | .var s a,h=>by
  simp only [S.ok,Bool.and_eq_true] at h;have:=hx a h.2;rw [S.txt,S.tree,wt];simp only [ey,length_append,length_cons,length_nil];omega
theorem S.lens (x:E->ai) (hx:∀ a:E,a.ok=true->(x a).length+4<=wt a.tree):∀ l:List S,S.cH l=true->∀ acc:ai,(S.cB x acc l).length<=acc.length+ey (S.trees l)
 | [],_,acc=>by rw [S.cB];omega
 | a::l,h,acc=>by
  simp only [S.cH,Bool.and_eq_true] at h;have h1:=S.len x hx a h.1;have h2:=S.lens x hx l h.2 ((acc++a.txt x)++[32]);rw [S.cB,S.trees,ey];simp only [length_append,length_cons,length_nil] at h2;omega
end
theorem rE (x:E->ai) (hx:∀ a:E,a.ok=true->(x a).length+4<=wt a.tree) {l:List S} (h:S.cH l=true):(eM x l).length<=wt (bC l):=by
 have:=S.lens x hx l h [123,32];unfold eM bC;rw [wt];simp only [length_append,length_cons,length_nil] at *;omega
end Go.Xp
namespace Go.Im
open Go.Xp Go.Sp
def pE (g:Nat->Option (T × Nat)):List Int->Nat->List T->Option (List T × Nat)
 | [],next,acc=>some (acc,next)
 | k::r,next,acc=>if k=(next:Int) then match g next with
  | none=>none
  | some (t,e)=>pE g r e (acc++[t])
  else none
def nF (nodes:List Nd):Nat->Nat->Option (T × Nat)
 | 0,_=>none
 | f+1,a=>match nodes[a]? with
  | none=>none
  | some n=>match pE (nF nodes f) n.kids (a+1) [] with
   | none=>none
   | some (l,e)=>if n.at_ < 0 then none else some (.mk n l,e)
def tr (nodes:List Nd) (a:Nat):Option (T × Nat):=nF nodes (nodes.length+1) a
theorem F1 {nodes:List Nd} {g:Nat->Option (T × Nat)} (hg:∀ a t e,g a=some (t,e)->a < e/\e<=nodes.length/\e=a+aO t/\(nodes.take e).drop a=ln a t) :
  ∀ (ks:List Int) (next:Nat) (acc l:List T) (e:Nat),next<=nodes.length->pE g ks next acc=some (l,e)->∃ l',l=acc++l'/\e=next+az l'/\e<=nodes.length/\ks=bQ next l'/\(nodes.take e).drop next=dV next l'
 | [],next,acc,l,e,hn,h=>by
  rw [pE] at h;cases h;exact ⟨[],by simp,by simp [az],hn,rfl,by rw [dV];exact eq_nil_of_length_eq_zero (by rw [length_drop,length_take];omega)⟩
 | k::r,next,acc,l,e,hn,h=>by
  rw [pE] at h;split at h
  ·rename_i hk
   cases hq:g next with
   | none=>rw [hq] at h;cases h
   | some x =>
    obtain ⟨t,e1⟩:=x;rw [hq] at h;simp only at h;obtain ⟨a1,a2,a3,a4⟩:=hg _ _ _ hq;obtain ⟨l',b1,b2,b3,b4,b5⟩:=F1 hg r e1 (acc++[t]) l e a2 h;refine ⟨t::l',by rw [b1];simp,by rw [az];omega,b3,by rw [bQ,<-a3,<-b4,hk],?_⟩;rw [dV,<-a3,<-a4,<-b5]
    have he:e1<=e:=by omega
    have h1:(nodes.take e).take e1=nodes.take e1:=by rw [List.take_take,Nat.min_eq_left he]
    have h2:(nodes.take e).drop next=((nodes.take e).take e1).drop next++(nodes.take e).drop e1:=by
     have h3:nodes.take e=(nodes.take e).take e1++(nodes.take e).drop e1:=(take_append_drop _ _).symm
     have h4:((nodes.take e).take e1).length=e1:=by rw [length_take,length_take];omega
     rw [h3,List.drop_append_of_le_length (by rw [h4];omega)];rw [<-h3]
    rw [h2,h1]
  ·cases h
theorem zK {nodes:List Nd}:∀ (f a:Nat) (t:T) (e:Nat),nF nodes f a=some (t,e)->a < e/\e<=nodes.length/\e=a+aO t/\(nodes.take e).drop a=ln a t
 | 0,a,t,e,h=>by cases h
 | f+1,a,t,e,h=>by
  rw [nF] at h
  cases hn:nodes[a]? with
  | none=>rw [hn] at h;cases h
  | some n =>
   rw [hn] at h;simp only at h;have ar:=(List.getElem?_eq_some_iff.1 hn).1
   cases hk:pE (nF nodes f) n.kids (a+1) [] with
   | none=>rw [hk] at h;cases h
   | some x =>
    obtain ⟨l,e1⟩:=x;rw [hk] at h;simp only at h;split at h
    ·cases h
    ·cases h;obtain ⟨l',b1,b2,b3,b4,b5⟩:=F1 (zK f) n.kids (a+1) [] l e ar hk
     have:l'=l:=by rw [b1];rfl
     subst this;refine ⟨by omega,b3,by rw [aO];omega,?_⟩;rw [ln,<-b4,<-b5]
     have h1:(nodes.take e)[a]?=some n:=by rw [getElem?_take,if_pos (by omega)];exact hn
     obtain ⟨h2,h3⟩:=List.getElem?_eq_some_iff.1 h1;rw [List.drop_eq_getElem_cons h2,h3]
def ir (nodes:List Nd):List Fn->Nat->List T->Option (List T × Nat)
 | [],next,acc=>some (acc,next)
 | f::r,next,acc=>match tr nodes next with
  | none=>none
  | some (t,e)=>if f.body=(next:Int) then ir nodes r e (acc++[t]) else none
def cP (k:Int) (n:Nat):Bool :=
 if k=1\/k=2 then ((n:Int)==0)
 else if k=4\/k=14 then true
 else if k=3\/k=5\/k=7\/k=11\/k=12\/k=13 then ((n:Int)==1)
 else if k=6\/k=8\/k=10 then ((n:Int)==2)
 else if k=9 then ((n:Int)==2) || ((n:Int)==3)
 else false
mutual
def fG:T->Bool
 | .mk n l=>cP n.kind l.length&&tP l
def tP:List T->Bool
 | []=>true
 | t::r=>fG t&&tP r
end
theorem xi (t:T):fG t=(cP t.n.kind t.kids.length&&tP t.kids):=by cases t;rw [fG];rfl
theorem su (l:List T):tP l=l.all fG:=by
 induction l with
 | nil=>rfl
 | cons t l ih=>rw [tP,ih];rfl
end Go.Im
namespace Go.Im
open Go.Xp Go.Sp
mutual
def eg (nodes:List Nd):Nat->T->Prop
 | a,.mk n l=>nodes[a]?=some n/\n.kids=bQ (a+1) l/\dj nodes (a+1) l
def dj (nodes:List Nd):Nat->List T->Prop
 | _,[]=>True
 | a,t::r=>eg nodes a t/\dj nodes (a+aO t) r
end
mutual
def wD:T->Prop
 | .mk n l=>0<=n.at_/\lz l
def lz:List T->Prop
 | []=>True
 | t::r=>wD t/\lz r
end
theorem jN (t:T):1<=aO t:=by rw [dX];omega
mutual
theorem eg.le {nodes:List Nd}:∀ (t:T) (a:Nat),eg nodes a t->a+aO t<=nodes.length
 | .mk n l,a,h=>by
  rw [eg] at h;have h1:=(List.getElem?_eq_some_iff.1 h.1).1;have:=dj.le l (a+1) h.2.2 h1;rw [aO];omega
theorem dj.le {nodes:List Nd}:∀ (l:List T) (a:Nat),dj nodes a l->a<=nodes.length->a+az l<=nodes.length
 | [],a,h,ha=>by rw [az];exact ha
 | t::r,a,h,ha=>by
  rw [dj] at h;have h1:=eg.le t a h.1;have:=dj.le r _ h.2 h1;rw [az];omega
end
theorem Hn {nodes:List Nd}:∀ (f:Nat),(∀ (a d:Nat) (e:Int),nJ nodes f a d=some e->0<=e->∃ t,eg nodes a t/\e=((a+aO t:Nat):Int)) /\
  (∀ (ks:List Int) (next d:Nat) (e:Int),mC nodes f ks (next:Int) d=some e->0<=e->∃ l,dj nodes next l/\ks=bQ next l/\e=((next+az l:Nat):Int)):=by
 intro f
 induction f with
 | zero =>
  refine ⟨fun a d e h _=>by simp [nJ] at h,fun ks next d e h _=>?_⟩
  cases ks with
  | nil=>rw [mC] at h;cases h;exact ⟨[],trivial,rfl,by simp [az]⟩
  | cons k r=>simp [mC] at h
 | succ f ih =>
  refine ⟨fun a d e h he=>?_,fun ks next d e h he=>?_⟩
  ·rw [nJ] at h;split at h
   ·cases h;omega
   ·cases hn:nodes[a]? with
    | none=>rw [hn] at h;cases h
    | some n =>
     rw [hn] at h;simp only at h;rw [show ((a:Int)+1)=((a+1:Nat):Int) by omega] at h;obtain ⟨l,h1,h2,h3⟩:=ih.2 _ _ _ _ h he;exact ⟨.mk n l,by rw [eg];exact ⟨hn,h2,h1⟩,by rw [h3,aO];omega⟩
  ·cases ks with
   | nil=>rw [mC] at h;cases h;exact ⟨[],trivial,rfl,by simp [az]⟩
   | cons k r =>
    rw [mC] at h;split at h
    ·rename_i hk;subst hk;rw [Int.toNat_natCast] at h
     cases hq:nJ nodes f next (d+1) with
     | none=>rw [hq] at h;cases h
     | some e1 =>
      rw [hq] at h;simp only at h;split at h
      ·cases h;omega
      ·rename_i h0;obtain ⟨t,h1,h2⟩:=ih.1 _ _ _ hq (by omega);subst h2;obtain ⟨l,h3,h4,h5⟩:=ih.2 _ _ _ _ h he;refine ⟨t::l,by rw [dj];exact ⟨h1,h3⟩,by rw [bQ,<-h4],by rw [h5,az];omega⟩
    ·cases h;omega
theorem uU {nodes:List Nd}:∀ (f:Nat),(∀ (t:T) (a:Nat),eg nodes a t->2 * aO t<=f->sub nodes f a=some t) /\
  (∀ (l:List T) (a:Nat) (acc:List T),dj nodes a l->2 * az l+1<=f->nN nodes f (bQ a l) acc=some (acc++l)):=by
 intro f
 induction f with
 | zero =>
  exact ⟨fun t a _ h=>by have:=jN t;omega,fun l a acc _ h=>by omega⟩
 | succ f ih =>
  refine ⟨fun t a hs h=>?_,fun l a acc hs h=>?_⟩
  ·obtain ⟨n,l⟩:=t;rw [eg] at hs;rw [aO] at h;rw [sub,hs.1];simp only;rw [hs.2.1,ih.2 l (a+1) [] hs.2.2 (by omega)];rfl
  ·cases l with
   | nil=>rw [bQ,nN];simp
   | cons t l =>
    rw [dj] at hs;rw [az] at h;have:=jN t;rw [bQ,nN,if_neg (by omega),Int.toNat_natCast,ih.1 t a hs.1 (by omega)];simp only;rw [ih.2 l _ _ hs.2 (by omega)];simp
theorem U9 {nodes:List Nd}:∀ (f:Nat) (t:T) (a:Nat),eg nodes a t->wD t->aO t<=f->nF nodes f a=some (t,a+aO t):=by
 intro f
 induction f with
 | zero=>intro t a _ _ h;have:=jN t;omega
 | succ f ih =>
  intro t a hs ha h;obtain ⟨n,l⟩:=t
  have key:∀ (l:List T) (a:Nat) (acc:List T),dj nodes a l->lz l->az l<=f->pE (nF nodes f) (bQ a l) a acc=some (acc++l,a+az l):=by
   intro l
   induction l with
   | nil=>intro a acc _ _ _;rw [bQ,pE,az];simp
   | cons t l ih2 =>
    intro a acc hs ha h;rw [dj] at hs;rw [lz] at ha;rw [az] at h;rw [bQ,pE,if_pos rfl,ih t a hs.1 ha.1 (by omega)];simp only;rw [ih2 _ _ hs.2 ha.2 (by omega),az];simp [Nat.add_assoc]
  rw [eg] at hs;rw [wD] at ha;rw [aO] at h;rw [nF,hs.1];simp only;rw [hs.2.1,key l (a+1) [] hs.2.2 ha.2 (by omega)];simp only;rw [if_neg (by omega),aO];simp only [nil_append,Option.some.injEq,Prod.mk.injEq,true_and];omega
theorem U0 {nodes:List Nd}:∀ (f:Nat) (t:T) (a e:Nat),nF nodes f a=some (t,e)->eg nodes a t/\e=a+aO t/\wD t:=by
 intro f
 induction f with
 | zero=>intro t a e h;cases h
 | succ f ih =>
  intro t a e h
  have key:∀ (ks:List Int) (next:Nat) (acc l:List T) (e:Nat),pE (nF nodes f) ks next acc=some (l,e)->∃ l',l=acc++l'/\dj nodes next l'/\ks=bQ next l'/\e=next+az l'/\lz l':=by
   intro ks
   induction ks with
   | nil=>intro next acc l e h;rw [pE] at h;cases h;exact ⟨[],by simp,trivial,rfl,by simp [az],trivial⟩
   | cons k r ih2 =>
    intro next acc l e h
    rw [pE] at h;split at h
    ·rename_i hk
     cases hq:nF nodes f next with
     | none=>rw [hq] at h;cases h
     | some x =>
      obtain ⟨t,e1⟩:=x;rw [hq] at h;simp only at h;obtain ⟨a1,a2,a3⟩:=ih _ _ _ hq;subst a2;obtain ⟨l',b1,b2,b3,b4,b5⟩:=ih2 _ _ _ _ h;exact ⟨t::l',by rw [b1];simp,by rw [dj];exact ⟨a1,b2⟩,by rw [bQ,hk,b3],by rw [b4,az];omega,by rw [lz];exact ⟨a3,b5⟩⟩
    ·cases h
  rw [nF] at h
  cases hn:nodes[a]? with
  | none=>rw [hn] at h;cases h
  | some n =>
   rw [hn] at h;simp only at h
   cases hk:pE (nF nodes f) n.kids (a+1) [] with
   | none=>rw [hk] at h;cases h
   | some x =>
    obtain ⟨l,e1⟩:=x;rw [hk] at h;simp only at h;split at h
    ·cases h
    ·rename_i h0;cases h;obtain ⟨l',b1,b2,b3,b4,b5⟩:=key _ _ _ _ _ hk
     have:l'=l:=by rw [b1];rfl
     subst this;exact ⟨by rw [eg];exact ⟨hn,b3,b2⟩,by rw [b4,aO];omega,by rw [wD];exact ⟨by omega,b5⟩⟩
theorem Ru {nodes:List Nd} (hl:nodes.length<=800):∀ (f:Nat),(∀ (t:T) (a d:Nat),eg nodes a t->d<=a->2 * aO t<=f->nJ nodes f a d=some ((a+aO t:Nat):Int)) /\
  (∀ (l:List T) (a d:Nat),dj nodes a l->d < a->2 * az l+1<=f->mC nodes f (bQ a l) (a:Int) d=some ((a+az l:Nat):Int)):=by
 intro f
 induction f with
 | zero =>
  exact ⟨fun t a d _ _ h=>by have:=jN t;omega,fun l a d _ _ h=>by omega⟩
 | succ f ih =>
  refine ⟨fun t a d hs hd h=>?_,fun l a d hs hd h=>?_⟩
  ·obtain ⟨n,l⟩:=t;rw [eg] at hs;rw [aO] at h |-;have ar:=(List.getElem?_eq_some_iff.1 hs.1).1;rw [nJ,if_neg (by omega),hs.1];simp only;rw [show ((a:Int)+1)=((a+1:Nat):Int) by omega,hs.2.1,ih.2 l (a+1) d hs.2.2 (by omega) (by omega)]
   congr 1;omega
  ·cases l with
   | nil=>rw [bQ,mC,az];simp
   | cons t l =>
    rw [dj] at hs;rw [az] at h |-;have:=jN t;rw [bQ,mC,if_pos rfl,Int.toNat_natCast,ih.1 t a (d+1) hs.1 (by omega) (by omega)];simp only;rw [if_neg (by omega),ih.2 l _ d hs.2 (by omega) (by omega)]
    congr 1;omega
theorem Lf {nodes:List Nd}:∀ (f:Nat),(∀ (a d:Nat),2 * (nodes.length - a)+1<=f->∃ e,nJ nodes f a d=some e/\(0<=e->(a:Int) < e/\a < nodes.length)) /\
  (∀ (ks:List Int) (next d:Nat),2 * (nodes.length - next)+2<=f->∃ e,mC nodes f ks (next:Int) d=some e/\(0<=e->(next:Int)<=e)):=by
 intro f
 induction f with
 | zero=>exact ⟨fun a d h=>by omega,fun ks next d h=>by omega⟩
 | succ f ih =>
  refine ⟨fun a d h=>?_,fun ks next d h=>?_⟩
  ·rw [nJ];split
   ·exact ⟨-1,rfl,fun h=>by omega⟩
   ·rename_i hc
    cases hn:nodes[a]? with
    | none=>rw [List.getElem?_eq_none_iff] at hn;omega
    | some n =>
     simp only;rw [show ((a:Int)+1)=((a+1:Nat):Int) by omega];obtain ⟨e,h1,h2⟩:=ih.2 n.kids (a+1) d (by omega);exact ⟨e,h1,fun h=>⟨by have:=h2 h;omega,by omega⟩⟩
  ·cases ks with
   | nil=>rw [mC];exact ⟨_,rfl,fun _=>Int.le_refl _⟩
   | cons k r =>
    rw [mC];split
    ·rename_i hk;subst hk;rw [Int.toNat_natCast]
     obtain ⟨e,h1,h2⟩:=ih.1 next (d+1) (by omega)
     rw [h1];simp only;split
     ·exact ⟨-1,rfl,fun h=>by omega⟩
     ·rename_i h0;have h3:=h2 (by omega);obtain ⟨m,rfl⟩:∃ m:Nat,e=(m:Int):=⟨e.toNat,by omega⟩;obtain ⟨e',h4,h5⟩:=ih.2 r m d (by omega);exact ⟨e',h4,fun h=>by have:=h5 h;omega⟩
    ·exact ⟨-1,rfl,fun h=>by omega⟩
def fj (Q:Fn->T->Prop):List Fn->Nat->List T->Prop
 | [],_,[]=>True
 | f::r,a,t::l=>f.body=(a:Int)/\Q f t/\fj Q r (a+aO t) l
 | _,_,_=>False
theorem fj.len {Q:Fn->T->Prop}:∀ {fns:List Fn} {a:Nat} {l:List T},fj Q fns a l->fns.length=l.length
 | [],_,[],_=>rfl
 | f::r,a,t::l,h=>by rw [fj] at h;rw [length_cons,length_cons,fj.len h.2.2]
 | [],_,t::l,h=>by cases h
 | f::r,_,[],h=>by cases h
theorem fj.mono {Q R:Fn->T->Prop}:∀ {fns:List Fn} {a:Nat} {l:List T},fj Q fns a l->(∀ f t,f∈fns->t∈l->Q f t->R f t)->fj R fns a l
 | [],_,[],_,_=>trivial
 | f::r,a,t::l,h,hq=>by
  rw [fj] at h |-;exact ⟨h.1,hq _ _ mem_cons_self mem_cons_self h.2.1,fj.mono h.2.2 fun f t hf ht=>hq f t (mem_cons_of_mem _ hf) (mem_cons_of_mem _ ht)⟩
 | [],_,t::l,h,_=>by cases h
 | f::r,_,[],h,_=>by cases h
theorem fj.at_ {Q:Fn->T->Prop}:∀ {fns:List Fn} {a:Nat} {l:List T},fj Q fns a l->∀ (i:Nat) f t,fns[i]?=some f->l[i]?=some t->f.body=((a+az (l.take i):Nat):Int)/\Q f t
 | [],_,[],_,i,f,t,h1,h2=>by simp at h1
 | f::r,a,t::l,h,i,f',t',h1,h2=>by
  rw [fj] at h
  cases i with
  | zero=>cases h1;cases h2;rw [take_zero,az];exact ⟨h.1,h.2.1⟩
  | succ i =>
   obtain ⟨k1,k2⟩:=fj.at_ h.2.2 i f' t' (by simpa using h1) (by simpa using h2);exact ⟨by rw [k1,take_succ_cons,az];omega,k2⟩
 | [],_,t::l,h,_,_,_,_,_=>by cases h
 | f::r,_,[],h,_,_,_,_,_=>by cases h
structure NK (f:Fn) (t:T):Prop where
 name:bh f.name=true
 params:ca f.params=true
 kind:t.n.kind=14
 all:cU t=true
theorem yx {nodes:List Nd}:∀ (fns:List Fn) (next:Nat) (e:Int),fJ nodes fns (next:Int)=some (some e)->∃ l,dj nodes next l/\fj NK fns next l/\e=((next+az l:Nat):Int)
 | [],next,e,h=>by rw [fJ] at h;cases h;exact ⟨[],trivial,trivial,by simp [az]⟩
 | f::r,next,e,h=>by
  rw [fJ,Int.toNat_natCast] at h
  cases hn:nJ nodes (fN nodes) next 0 with
  | none=>rw [hn] at h;cases h
  | some e1 =>
   rw [hn] at h;simp only at h;split at h
   ·cases h
   ·rename_i hc;split at h
    ·cases h
    ·rename_i hp;obtain ⟨t,h1,h2⟩:=(Hn _).1 _ _ _ hn (by omega);have hle:=eg.le t _ h1;rw [(uU _).1 t next h1 (by unfold fN;omega)] at h;simp only at h;split at h
     ·cases h
     ·rename_i hk;subst h2;obtain ⟨l,k1,k2,k3⟩:=yx r _ e h;refine ⟨t::l,by rw [dj];exact ⟨h1,k1⟩,?_,by rw [k3,az];omega⟩;rw [fj];refine ⟨by omega,⟨?_,?_,?_,?_⟩,k2⟩
      ·cases hq:bh f.name with
       | true=>rfl
       | false=>exact absurd (.inr (.inl hq)) hc
      ·simpa using hp
      ·exact Decidable.byContradiction fun hq=>hk (.inl hq)
      ·cases hq:cU t with
       | true=>rfl
       | false=>exact absurd (.inr hq) hk
theorem yw {nodes:List Nd} (hl:nodes.length<=800):∀ (fns:List Fn) (next:Nat) (l:List T),dj nodes next l->fj NK fns next l->fJ nodes fns (next:Int)=some (some ((next+az l:Nat):Int))
 | [],next,[],_,_=>by rw [fJ,az];rfl
 | f::r,next,t::l,h,hf=>by
  rw [dj] at h;rw [fj] at hf;have hle:=eg.le t _ h.1;rw [fJ,Int.toNat_natCast,(Ru hl _).1 t next 0 h.1 (Nat.zero_le _) (by unfold fN;omega)];simp only;rw [if_neg (by rw [hf.2.1.name];rintro (h | h | h);exact h hf.1;cases h;omega),if_neg (by rw [hf.2.1.params];decide),(uU _).1 t next h.1 (by unfold fN;omega)];simp only;rw [if_neg (by rw [hf.2.1.all];rintro (h | h);exact h hf.2.1.kind;cases h),yw hl r _ l h.2 hf.2.2,az]
  congr 2;omega
 | [],_,t::l,_,h=>by cases h
 | f::r,_,[],_,h=>by cases h
theorem v7 {nodes:List Nd}:∀ (fns:List Fn) (next:Nat),∃ r,fJ nodes fns (next:Int)=some r
 | [],next=>⟨_,by rw [fJ]⟩
 | f::r,next=>by
  obtain ⟨e,h1,h2⟩:=(Lf (nodes:=nodes) (fN nodes)).1 next 0 (by unfold fN;omega)
  rw [fJ,Int.toNat_natCast,h1];simp only;split
  ·exact ⟨_,rfl⟩
  ·rename_i hc;split
   ·exact ⟨_,rfl⟩
   ·obtain ⟨t,k1,k2⟩:=(Hn _).1 _ _ _ h1 (by omega);have hle:=eg.le t _ k1;rw [(uU _).1 t next k1 (by unfold fN;omega)];simp only;split
    ·exact ⟨_,rfl⟩
    ·rw [k2];exact v7 r _
theorem Kc (p:Src):∃ b,nw p=some b:=by
 unfold nw;split
 ·exact ⟨_,rfl⟩
 ·split
  ·exact ⟨_,rfl⟩
  ·obtain ⟨r,h⟩:=v7 (nodes:=p.nodes) p.fns 0;rw [show ((0:Nat):Int)=0 from rfl] at h;rw [h]
   cases r <;> exact ⟨_,rfl⟩
structure fy (p:Src) (l:List T):Prop where
 globals:ca p.globals=true
 arrays:p.arrays.all nH=true
 st:dj p.nodes 0 l
 fns:fj NK p.fns 0 l
 len:az l=p.nodes.length
 few:p.nodes.length<=800
theorem Sq {p:Src} (h:nw p=some true):∃ l,fy p l:=by
 unfold nw at h;split at h
 ·cases h
 ·rename_i h1;split at h
  ·cases h
  ·rename_i h2;rw [show (0:Int)=((0:Nat):Int) from rfl] at h
   cases hf:fJ p.nodes p.fns ((0:Nat):Int) with
   | none=>rw [hf] at h;cases h
   | some r =>
    rw [hf] at h
    cases r with
    | none=>cases h
    | some e =>
     obtain ⟨l,k1,k2,k3⟩:=yx _ _ _ hf;simp only [Option.some.injEq,Bool.and_eq_true,beq_iff_eq,decide_eq_true_eq] at h;exact ⟨l,by simpa using h1,by simpa using h2,k1,k2,by omega,by omega⟩
theorem fy.nw {p:Src} {l:List T} (h:fy p l):nw p=some true:=by
 unfold Go.Sp.nw;rw [if_neg (by rw [h.globals];decide),if_neg (by rw [h.arrays];decide),show (0:Int)=((0:Nat):Int) from rfl,yw h.few _ _ _ h.st h.fns];simp only [Option.some.injEq,Bool.and_eq_true,beq_iff_eq,decide_eq_true_eq];have:=h.len;have:=h.few;omega
theorem Bh {nodes:List Nd}:∀ (fns:List Fn) (next:Nat) (acc l:List T) (e:Nat),ir nodes fns next acc=some (l,e)->∃ l',l=acc++l'/\dj nodes next l'/\fj (fun _ _=>True) fns next l'/\e=next+az l'/\lz l'
 | [],next,acc,l,e,h=>by rw [ir] at h;cases h;exact ⟨[],by simp,trivial,trivial,by simp [az],trivial⟩
 | f::r,next,acc,l,e,h=>by
  rw [ir] at h
  cases hq:tr nodes next with
  | none=>rw [hq] at h;cases h
  | some x =>
   obtain ⟨t,e1⟩:=x;rw [hq] at h;simp only at h;split at h
   ·rename_i hb;obtain ⟨a1,a2,a3⟩:=U0 _ _ _ _ hq;subst a2;obtain ⟨l',b1,b2,b3,b4,b5⟩:=Bh r _ _ _ _ h;exact ⟨t::l',by rw [b1];simp,by rw [dj];exact ⟨a1,b2⟩,by rw [fj];exact ⟨hb,trivial,b3⟩,by rw [b4,az];omega,by rw [lz];exact ⟨a3,b5⟩⟩
   ·cases h
theorem He {nodes:List Nd} {Q:Fn->T->Prop}:∀ (fns:List Fn) (next:Nat) (acc l:List T),dj nodes next l->fj Q fns next l->lz l->ir nodes fns next acc=some (acc++l,next+az l)
 | [],next,acc,[],_,_,_=>by rw [ir,az];simp
 | f::r,next,acc,t::l,h,hf,ha=>by
  rw [dj] at h;rw [fj] at hf;rw [lz] at ha;have hle:=eg.le t _ h.1;rw [ir,tr,U9 _ t next h.1 ha.1 (by omega)];simp only;rw [if_pos hf.1,He r _ _ l h.2 hf.2.2 ha.2,az];simp [Nat.add_assoc]
 | [],_,_,t::l,_,h,_=>by cases h
 | f::r,_,_,[],_,h,_=>by cases h
mutual
theorem eg.fl {nodes:List Nd}:∀ (t:T) (a:Nat),eg nodes a t->(nodes.take (a+aO t)).drop a=ln a t
 | .mk n l,a,h=>by
  have hle:=eg.le _ _ h;rw [eg] at h;rw [aO] at hle;have h1:=dj.fl l (a+1) h.2.2 (by have:=(List.getElem?_eq_some_iff.1 h.1).1;omega);rw [ln,<-h.2.1,<-h1,aO,show a+(az l+1)=a+1+az l by omega]
  have h2:(nodes.take (a+1+az l))[a]?=some n:=by rw [getElem?_take,if_pos (by omega)];exact h.1
  obtain ⟨h3,h4⟩:=List.getElem?_eq_some_iff.1 h2;rw [List.drop_eq_getElem_cons h3,h4]
theorem dj.fl {nodes:List Nd}:∀ (l:List T) (a:Nat),dj nodes a l->a<=nodes.length->(nodes.take (a+az l)).drop a=dV a l
 | [],a,h,ha=>by
  rw [dV];exact eq_nil_of_length_eq_zero (by rw [az,length_drop,length_take];omega)
 | t::r,a,h,ha=>by
  rw [dj] at h;have hle:=eg.le _ _ h.1;have h1:=eg.fl t a h.1;have h2:=dj.fl r (a+aO t) h.2 hle;have zm:=dj.le r _ h.2 hle;rw [dV,<-h1,<-h2,az,show a+(aO t+az r)=a+aO t+az r by omega]
  have h3:nodes.take (a+aO t)=(nodes.take (a+aO t+az r)).take (a+aO t):=by rw [List.take_take,Nat.min_eq_left (by omega)]
  rw [h3];generalize hm:nodes.take (a+aO t+az r)=m
  have eu:m.length=a+aO t+az r:=by rw [<-hm,length_take];omega
  rw [<-List.drop_append_of_le_length (by rw [length_take];omega),take_append_drop]
end
theorem dj.all {nodes:List Nd} {l:List T} (h:dj nodes 0 l) (hl:az l=nodes.length):nodes=dV 0 l:=by
 have:=dj.fl l 0 h (Nat.zero_le _);rw [Nat.zero_add,hl,List.take_length,List.drop_zero] at this;exact this
end Go.Im
namespace Go.Im
open Go.Xp Go.Sp
def nr (n:Int):ai:=if n < 0 then 45::cm n.natAbs else cm n.toNat
def qU (s:ai):Int:=match levels.findIdx? (fun l=>l.contains s) with | some i=>(i:Int) | none => -1
def sU (b:Bool) (x:ai):ai:=if b=true then (40::x)++[41] else x
def kL (t:T) (least:Int):Bool:=(t.n.kind==6)&&decide (qU t.n.s < least)
def sJ (n:Nd) (l:List T) (x:List ai):ai :=
 if n.kind=1 then nr n.n
 else if n.kind=3 then ((n.s++[91])++x.getD 0 [])++[93]
 else if n.kind=4 then ((n.s++[40])++bx x)++[41]
 else if n.kind=5 then (n.s++[32])++(match l with | a::_=>sU (a.n.kind==6) (x.getD 0 []) | []=>[])
 else if n.kind=6 then (match l with
  | a::b::_=>(((sU (kL a (qU n.s)) (x.getD 0 [])++[32])++n.s)++[32])++sU (kL b (qU n.s+1)) (x.getD 1 [])
  | _=>[])
 else n.s
mutual
def cI:T->ai
 | .mk n l=>sJ n l (fo l)
def fo:List T->List ai
 | []=>[]
 | t::r=>cI t::fo r
end
theorem Nh (t:T):cI t=sJ t.n t.kids (fo t.kids):=by cases t;rw [cI];rfl
theorem B5 (l:List T):fo l=l.map cI:=by
 induction l with
 | nil=>rfl
 | cons t l ih=>rw [fo,ih];rfl
mutual
def jg:T->Nat
 | .mk n l=>n.s.length+60+fE l
def fE:List T->Nat
 | []=>0
 | t::r=>jg t+fE r
end
theorem od (t:T):jg t=t.n.s.length+60+fE t.kids:=by cases t;rw [jg];rfl
theorem sN {l:List T} {t:T} (h:t∈l):jg t<=fE l:=by
 induction l with
 | nil=>cases h
 | cons a l ih =>
  rw [fE]
  rcases List.mem_cons.1 h with rfl | h
  ·omega
  ·have:=ih h;omega
theorem Pd (l:List T):l.length * 60<=fE l:=by
 induction l with
 | nil=>simp
 | cons t l ih=>rw [fE,od,length_cons];omega
theorem Ct {n:Nat} (h:n < 100000000000000000000):(cm n).length<=20:=Hj 19 n (by simpa using h)
theorem xh {n:Int} (h : -9223372036854775808<=n/\n<=9223372036854775807):(nr n).length<=21:=by
 unfold nr;split
 ·have:=Ct (n:=n.natAbs) (by omega);simp only [length_cons];omega
 ·have:=Ct (n:=n.toNat) (by omega);omega
theorem xI (b:Bool) (x:ai):(sU b x).length<=x.length+2:=by
 unfold sU;split <;> simp
theorem D6:∀ (r:List ai),(r.flatMap fun y=>44::32::y).length=(r.map fun y=>y.length+2).sum
 | []=>rfl
 | z::r=>by
  have:=D6 r;simp only [flatMap_cons,length_append,List.map_cons,sum_cons,length_cons] at this |-;omega
theorem zx:∀ (x:List ai),(bx x).length<=(x.map fun y=>y.length+2).sum
 | []=>by simp [bx]
 | y::r=>by
  have h:=D6 r;rw [List.map_cons,sum_cons,bx,length_append,h];omega
mutual
def ow:T->Prop
 | .mk n l=>(-9223372036854775808<=n.n/\n.n<=9223372036854775807)/\pn l
def pn:List T->Prop
 | []=>True
 | t::r=>ow t/\pn r
end
theorem qg (t:T):ow t↔(-9223372036854775808<=t.n.n/\t.n.n<=9223372036854775807)/\pn t.kids:=by cases t;rw [ow];exact Iff.rfl
theorem jd {l:List T} {t:T} (h:pn l) (ht:t∈l):ow t:=by
 induction l with
 | nil=>cases ht
 | cons a l ih =>
  rw [pn] at h
  rcases List.mem_cons.1 ht with rfl | ht
  ·exact h.1
  ·exact ih h.2 ht
theorem uX:∀ (N:Nat) (t:T),aO t<=N->ow t->(cI t).length+4<=jg t:=by
 intro N
 induction N with
 | zero=>intro t h;rw [dX] at h;omega
 | succ N ih =>
  intro t hN hn;rw [dX] at hN;rw [qg] at hn
  have hk:∀ a∈t.kids,(cI a).length+4<=jg a:=fun a ha=>by
   refine ih a ?_ (jd hn.2 ha)
   have:∀ (l:List T),a∈l->aO a<=az l:=by
    intro l
    induction l with
    | nil=>intro h;cases h
    | cons b l ih2 =>
     intro h;rw [az]
     rcases List.mem_cons.1 h with rfl | h
     ·omega
     ·have:=ih2 h;omega
   have:=this _ ha;omega
  have Uf:((fo t.kids).map fun y=>y.length+2).sum<=fE t.kids:=by
   have:∀ (l:List T),(∀ a∈l,(cI a).length+4<=jg a)->((fo l).map fun y=>y.length+2).sum<=fE l:=by
    intro l
    induction l with
    | nil=>intro _;simp [fo]
    | cons a l ih2 =>
     intro h;have h1:=h a (mem_cons_self)
     have h2:=ih2 fun b hb=>h b (mem_cons_of_mem _ hb)
     rw [fo,fE,List.map_cons,sum_cons];omega
   exact this _ hk
  have h0:((fo t.kids).getD 0 []).length<=fE t.kids:=by
   cases hl:t.kids with
   | nil=>simp [fo]
   | cons a r =>
    have:=hk a (by rw [hl];exact mem_cons_self);rw [fo,fE];simp;omega
  have YO:∀ a b r,t.kids=a::b::r->((fo t.kids).getD 0 []).length+((fo t.kids).getD 1 []).length+8<=fE t.kids:=fun a b r hl=>by
   have h1:=hk a (by rw [hl];exact mem_cons_self);have h2:=hk b (by rw [hl];exact mem_cons_of_mem _ mem_cons_self);rw [hl,fo,fo,fE,fE];simp;omega
  rw [Nh,od];unfold sJ;split
  ·have:=xh hn.1;omega
  ·split
   ·simp only [length_append,length_cons,length_nil];omega
   ·split
    ·have:=zx (fo t.kids);simp only [length_append,length_cons,length_nil];omega
    ·split
     ·cases hl:t.kids with
      | nil=>simp <;> omega
      | cons a r =>
       simp only [length_append,length_cons,length_nil];have:=xI (a.n.kind==6) ((fo (a::r)).getD 0 []);rw [hl] at h0;omega
     ·split
      ·match hl:t.kids with
       | []=>simp <;> omega
       | [a]=>simp <;> omega
       | a::b::r =>
        have h1:=YO a b r hl;rw [hl] at h1;have h2:=xI (kL a (qU t.n.s)) ((fo (a::b::r)).getD 0 []);have h3:=xI (kL b (qU t.n.s+1)) ((fo (a::b::r)).getD 1 []);simp only [length_append,length_cons,length_nil];omega
      ·omega
end Go.Im
namespace Go.Im
open Go.Xp Go.Sp
def wy (own:ai) (n:Nd) (k:Nat) (x b:List ai):ai :=
 if n.kind=13 then ((([118,97,114,32]++n.s)++[32,61,32])++x.getD 0 [])++[59]
 else if n.kind=7 then ((n.s++[32,61,32])++x.getD 0 [])++[59]
 else if n.kind=8 then ((((n.s++[91])++x.getD 0 [])++[93,32,61,32])++x.getD 1 [])++[59]
 else if n.kind=9 then (if k=3 then ((([105,102,32,40]++x.getD 0 [])++[41,32])++b.getD 1 [])++([32,101,108,115,101,32]++b.getD 2 []) else (([105,102,32,40]++x.getD 0 [])++[41,32])++b.getD 1 [])
 else if n.kind=10 then (([119,104,105,108,101,32,40]++x.getD 0 [])++[41,32])++b.getD 1 []
 else if n.kind=11 then ([114,101,116,117,114,110,32]++x.getD 0 [])++[59]
 else if n.kind=12 then x.getD 0 []++[59]
 else own
section
variable (tx:T->ai) (inl:List ai->Nat->ai)
mutual
def jx:Nat->T->ai
 | d,.mk n l=>wy (tx (.mk n l)) n l.length (l.map tx) (oY d l)
def oY:Nat->List T->List ai
 | _,[]=>[]
 | d,t::r=>mh d t::oY d r
def mh:Nat->T->ai
 | d,.mk n l=>inl (wx (d+1) l) d
def wx:Nat->List T->List ai
 | _,[]=>[]
 | d,t::r=>jx d t::wx d r
end
end
theorem M9 (tx:T->ai) (inl:List ai->Nat->ai) (d:Nat) (t:T):jx tx inl d t=wy (tx t) t.n t.kids.length (t.kids.map tx) (oY tx inl d t.kids):=by cases t;rw [jx];rfl
theorem KN (tx:T->ai) (inl:List ai->Nat->ai) (d:Nat) (t:T):mh tx inl d t=inl (wx tx inl (d+1) t.kids) d:=by cases t;rw [mh];rfl
theorem Hc (tx:T->ai) (inl:List ai->Nat->ai) (d:Nat) (l:List T):oY tx inl d l=l.map (mh tx inl d):=by
 induction l with
 | nil=>rfl
 | cons t l ih=>rw [oY,ih];rfl
theorem Iv (tx:T->ai) (inl:List ai->Nat->ai) (d:Nat) (l:List T):wx tx inl d l=l.map (jx tx inl d):=by
 induction l with
 | nil=>rfl
 | cons t l ih=>rw [wx,ih];rfl
def re (acc:ai) (l:List ai):ai:=l.foldl (fun acc s=>acc++(s++[32])) acc
def fg (l:List ai) (d:Nat):ai:=re [123,32] l++[125]
def jJ:List ai->Nat
 | []=>0
 | s::l=>s.length+1+jJ l
theorem rW (l:List ai):∀ acc,(re acc l).length=acc.length+jJ l:=by
 induction l with
 | nil=>intro acc;simp [re,jJ]
 | cons s l ih =>
  intro acc;have:=ih (acc++(s++[32]));simp only [re,foldl_cons,jJ,length_append,length_cons,length_nil] at this |-;omega
theorem FV (a b:List ai):jJ (a++b)=jJ a+jJ b:=by
 induction a with
 | nil=>simp [jJ]
 | cons s a ih=>simp only [cons_append,jJ,ih];omega
theorem Nb (l:List ai) (k:Nat):jJ (l.take k)<=jJ l:=by
 have:jJ l=jJ (l.take k)+jJ (l.drop k):=by rw [<-FV,take_append_drop]
 omega
theorem KS (acc:ai) (l:List ai) (s:ai):re acc (l++[s])=re acc l++(s++[32]):=by simp [re]
theorem Ss {l:List ai} {s:ai} (h:s∈l):s.length<=jJ l:=by
 induction l with
 | nil=>cases h
 | cons a l ih =>
  rw [jJ]
  rcases List.mem_cons.1 h with rfl | h
  ·omega
  ·have:=ih h;omega
theorem OX {l:List ai} {d:Nat} {s:ai} (h:s∈l):s.length<=(fg l d).length:=by
 have h1:=Ss h;have h2:=rW l [123,32];unfold fg;rw [length_append,h2];omega
end Go.Im
namespace Go.Im
open Go.Xp Go.Sp
def g1 (s:ai):ai:=([105,110,116,32]++s)++[59,10]
def a1 (a:Ar):ai:=((([105,110,116,32]++a.name)++[91])++nr a.size)++[93,59,10]
def f1 (tx:T->ai) (inl:List ai->Nat->ai) (x:Fn × T):ai:=((((([102,117,110,99,32]++x.1.name)++[40])++bx x.1.params)++[41,32])++mh tx inl 0 x.2)++[10]
def c7 {α:Type} (f:α->ai):ai->List α->ai
 | acc,[]=>acc
 | acc,x::l=>c7 f (acc++f x) l
theorem wG {α:Type} (f:α->ai) (l:List α) (x:α):∀ acc,c7 f acc (l++[x])=c7 f acc l++f x:=by
 induction l with
 | nil=>intro acc;rfl
 | cons y l ih=>intro acc;simp only [cons_append,c7];exact ih _
theorem NS {α:Type} (f:α->ai) (l k:List α):∀ acc,c7 f acc (l++k)=c7 f (c7 f acc l) k:=by
 induction l with
 | nil=>intro acc;rfl
 | cons y l ih=>intro acc;simp only [cons_append,c7];exact ih _
theorem Bl {α:Type} (f:α->ai) (l:List α):∀ acc,acc.length<=(c7 f acc l).length:=by
 induction l with
 | nil=>intro acc;exact Nat.le_refl _
 | cons y l ih=>intro acc;have:=ih (acc++f y);rw [c7];rw [length_append] at this;omega
theorem wH {α:Type} (f:α->ai) (l:List α) (k:Nat) (acc:ai):(c7 f acc (l.take k)).length<=(c7 f acc l).length:=by
 have:c7 f acc l=c7 f (c7 f acc (l.take k)) (l.drop k):=by rw [<-NS,take_append_drop]
 rw [this];exact Bl f _ _
def mc (tx:T->ai) (inl:List ai->Nat->ai) (p:Src) (trees:List T):ai:=c7 (f1 tx inl) (c7 a1 (c7 g1 [] p.globals) p.arrays) (p.fns.zip trees)
end Go.Im
namespace Go.Im
def eU {α:Type} (p:α->α->Bool):List α->List α->Bool
 | [],[]=>true
 | a::r,b::s=>p a b&&eU p r s
 | _,_=>false
theorem xM {α:Type} {p:α->α->Bool}:∀ {a b:List α},eU p a b=true->a.length=b.length
 | [],[],_=>rfl
 | a::r,b::s,h=>by rw [eU,Bool.and_eq_true] at h;rw [length_cons,length_cons,xM h.2]
 | [],b::s,h=>by cases h
 | a::r,[],h=>by cases h
theorem qG {α:Type} {p:α->α->Bool} {a b:List α} (h:a.length≠b.length):eU p a b=false:=by
 cases hc:eU p a b with
 | false=>rfl
 | true=>exact absurd (xM hc) h
theorem DZ {α:Type} {p:α->α->Bool}:∀ {a b:List α} {k:Nat} {x y:α},a[k]?=some x->b[k]?=some y->eU p a b=true->p x y=true
 | a::r,b::s,0,x,y,h1,h2,h=>by cases h1;cases h2;rw [eU,Bool.and_eq_true] at h;exact h.1
 | a::r,b::s,k+1,x,y,h1,h2,h=>by rw [eU,Bool.and_eq_true] at h;exact DZ (by simpa using h1) (by simpa using h2) h.2
 | [],_,k,x,y,h1,h2,h=>by simp at h1
 | a::r,[],k,x,y,h1,h2,h=>by simp at h2
theorem qH {α:Type} {p:α->α->Bool} {a b:List α} {k:Nat} {x y:α} (h1:a[k]?=some x) (h2:b[k]?=some y) (h:p x y=false):eU p a b=false:=by
 cases hc:eU p a b with
 | false=>rfl
 | true=>have:=DZ h1 h2 hc;rw [h] at this;cases this
theorem Ho {α:Type} {p:α->α->Bool}:∀ {a b:List α},a.length=b.length->(∀ (k:Nat) x y,a[k]?=some x->b[k]?=some y->p x y=true)->eU p a b=true
 | [],[],_,_=>rfl
 | a::r,b::s,hl,h=>by
  rw [eU,h 0 a b rfl rfl,Ho (by simpa using hl) fun k x y h1 h2=>h (k+1) x y (by simpa using h1) (by simpa using h2)];rfl
 | [],b::s,hl,h=>by simp at hl
 | a::r,[],hl,h=>by simp at hl
def rZ {α:Type} (p:α->α->Bool) (a b:List α) (k:Nat):Prop:=∀ j x y,j < k->a[j]?=some x->b[j]?=some y->p x y=true
theorem ll {α:Type} {p:α->α->Bool} {a b:List α} {k:Nat} {x y:α} (h1:a[k]?=some x) (h2:b[k]?=some y) (h:rZ p a b k) (hp:p x y=true):rZ p a b (k+1):=fun j u v hj h3 h4=>by
 by_cases he:j=k
 ·subst he;rw [h1] at h3;rw [h2] at h4;cases h3;cases h4;exact hp
 ·exact h j u v (by omega) h3 h4
theorem mD {α:Type} {p:α->α->Bool} {a b:List α} (hl:a.length=b.length) (h:rZ p a b a.length):eU p a b=true :=
 Ho hl fun k x y h1 h2=>h k x y (List.getElem?_eq_some_iff.1 h1).1 h1 h2
def qy (a b:Go.Sp.Fn):Bool:=((a.name==b.name)&&eU (fun x y=>x==y) a.params b.params)&&(a.body==b.body)
def ki (a b:Go.Xp.Nd):Bool:=(((a.kind==b.kind)&&(a.n==b.n))&&(a.s==b.s))&&eU (fun x y=>x==y) a.kids b.kids
def yt (x y:Go.Xp.Ar):Bool:=(x.name==y.name)&&(x.size==y.size)
end Go.Im
namespace Go.Im
open Go.Xp Go.Sp
theorem Hs (l:List T):(aL l).length=l.length:=by rw [rG,length_map]
theorem wM (t:T):(er t).n=⟨t.n.kind,0,t.n.n,t.n.s,[]⟩:=by cases t;rw [er];rfl
theorem Rw (t:T):(er t).kids=aL t.kids:=by cases t;rw [er];rfl
mutual
theorem uW:∀ t:T,aO (er t)=aO t
 | .mk n l=>by rw [er,aO,aO,uV l]
theorem uV:∀ l:List T,az (aL l)=az l
 | []=>by rw [aL]
 | t::r=>by rw [aL,az,az,uW t,uV r]
end
theorem CT (m:Nat):∀ (l:List T) (i:Nat),be m i (aL l)=be m i l
 | [],i=>by rw [aL]
 | t::r,i=>by rw [aL,be,be,CT m r (i+1),wM]
theorem Dg:∀ (l:List T),(aL l).all (fun x=>fS x.n.kind)=l.all (fun x=>fS x.n.kind)
 | []=>by rw [aL]
 | t::r=>by rw [aL,all_cons,all_cons,Dg r,wM]
theorem UM (n:Nd) (k:Nat) (kd:Nat->Bool) (bl:Bool) (h:0<=n.at_) (h':own ⟨n.kind,0,n.n,n.s,[]⟩ k kd bl=true):own n k kd bl=true:=by
 unfold own at h' |-;rw [if_neg (by simp)] at h';rw [if_neg (by simpa using h)];exact h'
mutual
theorem KJ:∀ t:T,cU (er t)=true->wD t->cU t=true
 | .mk n l,h,ha=>by
  rw [er,cU,Bool.and_eq_true] at h;rw [wD] at ha;rw [cU,Bool.and_eq_true];refine ⟨Ha l h.1 ha.2,?_⟩;have h2:own ⟨n.kind,0,n.n,n.s,[]⟩ (aL l).length (fun m=>be m 0 (aL l)) ((aL l).all fun x=>fS x.n.kind)=true:=h.2;rw [Hs,Dg] at h2;simp only [CT] at h2;exact UM n _ _ _ ha.1 h2
theorem Ha:∀ l:List T,bP (aL l)=true->lz l->bP l=true
 | [],_,_=>rfl
 | t::r,h,ha=>by
  rw [aL,bP,Bool.and_eq_true] at h;rw [lz] at ha;rw [bP,Bool.and_eq_true];exact ⟨KJ t h.1 ha.1,Ha r h.2 ha.2⟩
end
mutual
theorem KH:∀ t:T,cU t=true->wD t
 | .mk n l,h=>by
  rw [cU,Bool.and_eq_true] at h;rw [wD];refine ⟨?_,G9 l h.1⟩;have h2:own n l.length (fun m=>be m 0 l) (l.all fun x=>fS x.n.kind)=true:=h.2
  by_cases h0:n.at_ < 0
  ·unfold own at h2;rw [if_pos (by simpa using h0)] at h2;cases h2
  ·omega
theorem G9:∀ l:List T,bP l=true->lz l
 | [],_=>trivial
 | t::r,h=>by
  rw [bP,Bool.and_eq_true] at h;rw [lz];exact ⟨KH t h.1,G9 r h.2⟩
end
theorem jR (a:E):lS a.tree.n.kind=true:=by cases a <;> rfl
mutual
theorem E.fq:∀ a:E,a.ok=true->cU a.tree=true
 | .num n,h=>by
  simp only [E.ok,Bool.and_eq_true] at h;rw [E.tree,cU,bP];simp [bH,own,T.n,T.kids];exact h
 | .name s,h=>by
  simp only [E.ok] at h;rw [E.tree,cU,bP];simp [bH,own,T.n,T.kids,h]
 | .at_ s a,h=>by
  simp only [E.ok,Bool.and_eq_true] at h;have h2:=E.fq a h.2;have h3:=jR a;rw [E.tree,cU,bP,bP,h2];simp [bH,own,T.n,T.kids,h.1,be];exact h3
 | .call s l,h=>by
  simp only [E.ok,Bool.and_eq_true] at h;obtain ⟨h2,h3⟩:=E.qY l h.2;rw [E.tree,cU,h2];have:=h3 (E.trees l).length 0 (by omega);simp [bH,own,T.n,T.kids,h.1,this]
 | .un s a,h=>by
  simp only [E.ok,Bool.and_eq_true] at h;have h2:=E.fq a h.2;have h3:=jR a;rw [E.tree,cU,bP,bP,h2];simp [bH,own,T.n,T.kids,be];exact ⟨by simpa using h.1,h3⟩
 | .bin s a b,h=>by
  simp only [E.ok,Bool.and_eq_true] at h;have h2:=E.fq a h.1.2;have h3:=jR a;have h4:=E.fq b h.2;have h5:=jR b;rw [E.tree,cU,bP,bP,bP,h2,h4];simp [bH,own,T.n,T.kids,be,h.1.1];exact ⟨h3,h5⟩
theorem E.qY:∀ l:List E,E.cH l=true->bP (E.trees l)=true/\∀ m i,i+(E.trees l).length<=m->be m i (E.trees l)=true
 | [],_=>⟨rfl,fun m i _=>rfl⟩
 | a::l,h=>by
  simp only [E.cH,Bool.and_eq_true] at h;obtain ⟨h2,h3⟩:=E.qY l h.2;refine ⟨by rw [E.trees,bP,E.fq a h.1,h2];rfl,fun m i hm=>?_⟩;rw [E.trees,length_cons] at hm;rw [E.trees,be,if_pos (by omega),jR a,h3 m (i+1) (by omega)];rfl
end
theorem US (a:S):fS a.tree.n.kind=true:=by cases a <;> rfl
mutual
theorem S.fq:∀ a:S,a.ok=true->cU a.tree=true
 | .set s a,h=>by
  simp only [S.ok,Bool.and_eq_true] at h;have h2:=E.fq a h.2;have h3:=jR a;rw [S.tree,cU,bP,bP,h2];simp [bH,own,T.n,T.kids,h.1,be];exact h3
 | .var s a,h=>by
  simp only [S.ok,Bool.and_eq_true] at h;have h2:=E.fq a h.2;have h3:=jR a;rw [S.tree,cU,bP,bP,h2];simp [bH,own,T.n,T.kids,h.1,be];exact h3
 | .ret a,h=>by
  simp only [S.ok] at h;have h2:=E.fq a h;have h3:=jR a;rw [S.tree,cU,bP,bP,h2];simp [bH,own,T.n,T.kids,be];exact h3
 | .do_ a,h=>by
  simp only [S.ok] at h;have h2:=E.fq a h;have h3:=jR a;rw [S.tree,cU,bP,bP,h2];simp [bH,own,T.n,T.kids,be];exact h3
 | .put s a b,h=>by
  simp only [S.ok,Bool.and_eq_true] at h;have h2:=E.fq a h.2.1;have h3:=jR a;have h4:=E.fq b h.2.2;have h5:=jR b;rw [S.tree,cU,bP,bP,bP,h2,h4];simp [bH,own,T.n,T.kids,be,h.1];exact ⟨h3,h5⟩
 | .if1 c b,h=>by
  simp only [S.ok,Bool.and_eq_true] at h;have h2:=E.fq c h.1;have h3:=jR c;have h4:=S.uf b h.2;rw [S.tree,cU,bP,bP,bP,h2,h4];simp [bH,own,T.n,T.kids,be];exact h3
 | .if2 c b b2,h=>by
  simp only [S.ok,Bool.and_eq_true] at h;have h2:=E.fq c h.1;have h3:=jR c;have h4:=S.uf b h.2.1;have h5:=S.uf b2 h.2.2;rw [S.tree,cU,bP,bP,bP,bP,h2,h4,h5];simp [bH,own,T.n,T.kids,be];exact h3
 | .while_ c b,h=>by
  simp only [S.ok,Bool.and_eq_true] at h;have h2:=E.fq c h.1;have h3:=jR c;have h4:=S.uf b h.2;rw [S.tree,cU,bP,bP,bP,h2,h4];simp [bH,own,T.n,T.kids,be];exact h3
theorem S.uf:∀ l:List S,S.cH l=true->cU (.mk ⟨14,0,0,[],[]⟩ (S.trees l))=true
 | l,h=>by
  obtain ⟨h1,h2⟩:=S.qY l h;have h3:bH (.mk ⟨14,0,0,[],[]⟩ (S.trees l))=own ⟨14,0,0,[],[]⟩ (S.trees l).length (fun m=>be m 0 (S.trees l)) ((S.trees l).all fun x=>fS x.n.kind):=rfl;rw [cU,h1,h3,h2];simp [own]
theorem S.qY:∀ l:List S,S.cH l=true->bP (S.trees l)=true/\(S.trees l).all (fun x=>fS x.n.kind)=true
 | [],_=>⟨rfl,rfl⟩
 | a::l,h=>by
  simp only [S.cH,Bool.and_eq_true] at h;obtain ⟨h1,h2⟩:=S.qY l h.2;exact ⟨by rw [S.trees,bP,S.fq a h.1,h1];rfl,by rw [S.trees,all_cons,h2,US a];rfl⟩
end
theorem Wj {n:Nd} {k:Nat} {kd:Nat->Bool} {bl:Bool} (h:own n k kd bl=true):cP n.kind k=true:=by
 have hc:n.kind=1\/n.kind=2\/n.kind=3\/n.kind=4\/n.kind=5\/n.kind=6\/n.kind=7\/n.kind=8\/n.kind=9\/n.kind=10\/n.kind=11\/n.kind=12\/n.kind=13\/n.kind=14\/(n.kind < 1\/14 < n.kind):=by omega
 unfold own at h
 by_cases h0:decide (n.at_ < 0)=true
 ·rw [if_pos h0] at h;cases h
 rw [if_neg h0] at h
 by_cases h1:(n.kind != 1&&n.n != 0)=true
 ·rw [if_pos h1] at h;cases h
 rw [if_neg h1] at h;clear h0 h1
 rcases hc with hk | hk | hk | hk | hk | hk | hk | hk | hk | hk | hk | hk | hk | hk | hk
 all_goals (first | (simp [hk] at h;simp [cP,hk];done) | (simp [hk] at h;simp [cP,hk];omega) | (simp [hk] at h;simp [cP,hk,h];done) | skip)
 ·exfalso
  have e1:(n.kind==1)=false:=by simp;omega
  have e2:(n.kind==2)=false:=by simp;omega
  have e3:(n.kind==3)=false:=by simp;omega
  have e4:(n.kind==4)=false:=by simp;omega
  have e5:(n.kind==5)=false:=by simp;omega
  have e6:(n.kind==6)=false:=by simp;omega
  have e7:(n.kind==7)=false:=by simp;omega
  have e8:(n.kind==8)=false:=by simp;omega
  have e9:(n.kind==9)=false:=by simp;omega
  have Wz:(n.kind==10)=false:=by simp;omega
  have YB:(n.kind==11)=false:=by simp;omega
  have YC:(n.kind==12)=false:=by simp;omega
  have YD:(n.kind==13)=false:=by simp;omega
  have YE:(n.kind==14)=false:=by simp;omega
  rw [e1,e2,e3,e4,e5,e6,e7,e8,e9,Wz,YB,YC,YD,YE] at h;simp at h
mutual
theorem Qc:∀ t:T,cU t=true->fG t=true
 | .mk n l,h=>by
  rw [cU,Bool.and_eq_true] at h;rw [fG,KK l h.1,Bool.and_true];exact Wj h.2
theorem KK:∀ l:List T,bP l=true->tP l=true
 | [],_=>rfl
 | t::r,h=>by
  rw [bP,Bool.and_eq_true] at h;rw [tP,Qc t h.1,KK r h.2];rfl
end
theorem Pe (t:T) (z:Int):kL (er t) z=kL t z:=by unfold kL;rw [wM]
theorem Sw (n:Nd) (l:List T) (x:List ai):sJ ⟨n.kind,0,n.n,n.s,[]⟩ (aL l) x=sJ n l x:=by
 unfold sJ
 match l with
 | []=>rw [aL]
 | [a]=>rw [aL,aL];simp only [wM]
 | a::b::r=>rw [aL,aL];simp only [wM,Pe]
mutual
theorem Ni:∀ t:T,cI (er t)=cI t
 | .mk n l=>by rw [er,cI,cI,B4 l,Sw]
theorem B4:∀ l:List T,fo (aL l)=fo l
 | []=>by rw [aL]
 | t::r=>by rw [aL,fo,fo,Ni t,B4 r]
end
mutual
theorem UY (inl:List ai->Nat->ai):∀ (t:T) (d:Nat),jx cI inl d (er t)=jx cI inl d t
 | .mk n l,d=>by
  have h:=Ni (.mk n l);rw [er] at h |-;rw [jx,jx,h,Hb inl l d,Hs]
  have:(aL l).map cI=l.map cI:=by rw [<-B5,<-B5,B4]
  rw [this];rfl
theorem Hb (inl:List ai->Nat->ai):∀ (l:List T) (d:Nat),oY cI inl d (aL l)=oY cI inl d l
 | [],d=>by rw [aL]
 | t::r,d=>by rw [aL,oY,oY,KO inl t d,Hb inl r d]
theorem KO (inl:List ai->Nat->ai):∀ (t:T) (d:Nat),mh cI inl d (er t)=mh cI inl d t
 | .mk n l,d=>by rw [er,mh,mh,Iu inl l (d+1)]
theorem Iu (inl:List ai->Nat->ai):∀ (l:List T) (d:Nat),wx cI inl d (aL l)=wx cI inl d l
 | [],d=>by rw [aL]
 | t::r,d=>by rw [aL,wx,wx,UY inl t d,Iu inl r d]
end
theorem MF {s:ai} (h:ej s=true):qU s=(dF s:Int):=by
 unfold qU dF
 cases hf:levels.findIdx? (fun l=>l.contains s) with
 | some i=>rfl
 | none =>
  rw [List.findIdx?_eq_none_iff] at hf;unfold ej at h;rw [any_eq_true] at h;obtain ⟨l,h1,h2⟩:=h;have:=hf l h1;rw [h2] at this;cases this
theorem H5 {a:E} (h:a.ok=true) (k:Nat) (hk:k<=9):kL a.tree (k:Int)=decide (a.lv < k):=by
 have key:∀ b:Bool,(false&&b)=decide (9 < k):=fun b=>by rw [Bool.false_and,decide_eq_false (by omega)]
 cases a with
 | bin s x y =>
  simp only [E.ok,Bool.and_eq_true] at h;show (true&&decide (qU s < (k:Int)))=decide (dF s < k);rw [MF h.1.1,Bool.true_and];exact decide_eq_decide.2 (by omega)
 | num n=>exact key _
 | name n=>exact key _
 | at_ s a=>exact key _
 | call s l=>exact key _
 | un s a=>exact key _
theorem Bi (lv k:Nat) (x:ai):sU (decide (lv < k)) x=pH lv k x:=by
 unfold sU pH
 by_cases h:lv < k
 ·rw [if_pos (by simpa using h),if_pos h]
 ·rw [if_neg (by simpa using h),if_neg h]
theorem SM {a:E} (h:a.ok=true):(a.tree.n.kind==6)=decide (a.lv < 9):=by
 cases a with
 | bin s x y =>
  simp only [E.ok,Bool.and_eq_true] at h;have:=(oM h.1.1).1;show true=decide (dF s < 9);exact (decide_eq_true this).symm
 | _=>rfl
mutual
theorem iK:∀ a:E,a.ok=true->cI a.tree=a.txt
 | .num n,h=>by
  simp only [E.ok,Bool.and_eq_true,decide_eq_true_eq] at h;rw [E.tree,cI,E.txt];unfold sJ nr;simp only [if_true];rw [if_neg (by omega)]
 | .name s,h=>by
  rw [E.tree,cI,E.txt];simp [sJ]
 | .at_ s a,h=>by
  simp only [E.ok,Bool.and_eq_true] at h;have h2:=iK a h.2;rw [E.tree,cI,fo,fo,h2,E.txt];simp [sJ]
 | .call s l,h=>by
  simp only [E.ok,Bool.and_eq_true] at h;rw [E.tree,cI,ID l h.2,E.txt];simp [sJ]
 | .un s a,h=>by
  simp only [E.ok,Bool.and_eq_true] at h;have h2:=iK a h.2;rw [E.tree,cI,fo,fo,h2,E.txt,<-Bi,<-SM h.2];simp [sJ]
 | .bin s a b,h=>by
  simp only [E.ok,Bool.and_eq_true] at h;have h2:=iK a h.1.2;have h3:=iK b h.2;have hl:=(oM h.1.1).1;have e1:=H5 h.1.2 (dF s) (by omega);have e2:=H5 h.2 (dF s+1) (by omega);rw [E.tree,cI,fo,fo,fo,h2,h3,E.txt,<-Bi,<-Bi,<-e1,<-e2];unfold sJ;simp only [MF h.1.1];simp
theorem ID:∀ l:List E,E.cH l=true->fo (E.trees l)=E.cB l
 | [],_=>rfl
 | a::l,h=>by
  simp only [E.cH,Bool.and_eq_true] at h;rw [E.trees,fo,E.cB,iK a h.1,ID l h.2]
end
theorem Co (x:E->ai):∀ (l:List S) (acc:ai),re acc (l.map (S.txt x))=S.cB x acc l
 | [],acc=>by rw [S.cB];rfl
 | a::l,acc=>by
  rw [S.cB,<-Co x l];simp [re,append_assoc]
mutual
theorem Sn:∀ (s:S),s.ok=true->∀ d,jx cI fg d s.tree=s.txt E.txt
 | .set s a,h,d=>by
  simp only [S.ok,Bool.and_eq_true] at h;rw [S.tree,jx,List.map_cons,iK a h.2,S.txt];simp [wy]
 | .var s a,h,d=>by
  simp only [S.ok,Bool.and_eq_true] at h;rw [S.tree,jx,List.map_cons,iK a h.2,S.txt];simp [wy]
 | .ret a,h,d=>by
  simp only [S.ok] at h;rw [S.tree,jx,List.map_cons,iK a h,S.txt];simp [wy]
 | .do_ a,h,d=>by
  simp only [S.ok] at h;rw [S.tree,jx,List.map_cons,iK a h,S.txt];simp [wy]
 | .put s a b,h,d=>by
  simp only [S.ok,Bool.and_eq_true] at h;rw [S.tree,jx,List.map_cons,List.map_cons,iK a h.2.1,iK b h.2.2,S.txt];simp [wy]
 | .if1 c b,h,d=>by
  simp only [S.ok,Bool.and_eq_true] at h;have hb:=ue b h.2 d;rw [S.tree,jx,List.map_cons,iK c h.1,oY,oY,oY,hb,S.txt];simp [wy,eM]
 | .if2 c b b2,h,d=>by
  simp only [S.ok,Bool.and_eq_true] at h;have hb:=ue b h.2.1 d;have eC:=ue b2 h.2.2 d;rw [S.tree,jx,List.map_cons,iK c h.1,oY,oY,oY,oY,hb,eC,S.txt];simp [wy,eM]
 | .while_ c b,h,d=>by
  simp only [S.ok,Bool.and_eq_true] at h;have hb:=ue b h.2 d;rw [S.tree,jx,List.map_cons,iK c h.1,oY,oY,oY,hb,S.txt];simp [wy,eM]
theorem ue:∀ (l:List S),S.cH l=true->∀ d,mh cI fg d (.mk ⟨14,0,0,[],[]⟩ (S.trees l))=eM E.txt l
 | l,h,d=>by
  rw [mh,Iw l h (d+1),fg,Co];rfl
theorem Iw:∀ (l:List S),S.cH l=true->∀ d,wx cI fg d (S.trees l)=l.map (S.txt E.txt)
 | [],_,d=>by rw [S.trees,wx];rfl
 | a::l,h,d=>by
  simp only [S.cH,Bool.and_eq_true] at h;rw [S.trees,wx,List.map_cons,Sn a h.1,Iw l h.2]
end
theorem pY {α:Type} {p:α->α->Bool} (h:∀ x,p x x=true):∀ l:List α,eU p l l=true
 | []=>rfl
 | a::l=>by rw [eU,h a,pY h l];rfl
theorem xL {α:Type} [BEq α] [LawfulBEq α]:∀ {a b:List α},eU (fun x y=>x==y) a b=true->a=b
 | [],[],_=>rfl
 | a::r,b::s,h=>by rw [eU,Bool.and_eq_true,beq_iff_eq] at h;rw [h.1,xL h.2]
 | [],b::s,h=>by cases h
 | a::r,[],h=>by cases h
theorem Hp {α:Type} {p:α->α->Bool}:∀ {a b:List α} {c d:List α},a.length=b.length->eU p (a++c) (b++d)=(eU p a b&&eU p c d)
 | [],[],c,d,_=>rfl
 | a::r,b::s,c,d,h=>by rw [cons_append,cons_append,eU,eU,Hp (by simpa using h),Bool.and_assoc]
 | [],b::s,_,_,h=>by simp at h
 | a::r,[],_,_,h=>by simp at h
theorem vu:∀ (l:List T) (a:Nat),bQ a (aL l)=bQ a l
 | [],a=>by rw [aL]
 | t::r,a=>by rw [aL,bQ,bQ,uW,vu r]
mutual
theorem RB:∀ (t u:T) (a:Nat),er t=er u->eU ki (ln a t) (ln a u)=true
 | .mk n l,.mk m k,a,h=>by
  rw [er,er] at h
  injection h with h1 h2
  injection h1 with h3 h4 h5 h6 h7
  rw [ln,ln,eU,Br l k (a+1) h2,Bool.and_true,<-vu l,<-vu k,h2];simp only [ki,h3,h5,h6];simp [pY]
theorem Br:∀ (l k:List T) (a:Nat),aL l=aL k->eU ki (dV a l) (dV a k)=true
 | [],[],a,_=>by rw [dV];rfl
 | t::r,u::s,a,h=>by
  rw [aL,aL] at h
  injection h with h1 h2
  have hz:aO t=aO u:=by rw [<-uW t,h1,uW u]
  rw [dV,dV,Hp (by rw [Hy,Hy,hz]),RB t u a h1,<-hz,Br r s _ h2];rfl
 | [],u::s,a,h=>by rw [aL,aL] at h;cases h
 | t::r,[],a,h=>by rw [aL,aL] at h;cases h
end
mutual
theorem Sk:∀ (t u:T) (a:Nat) (x y:List Nd),eU ki (ln a t++x) (ln a u++y)=true->er t=er u/\eU ki x y=true
 | .mk n l,.mk m k,a,x,y,h=>by
  rw [ln,ln,cons_append,cons_append,eU,Bool.and_eq_true] at h;obtain ⟨h1,h2⟩:=h;simp only [ki,Bool.and_eq_true,beq_iff_eq] at h1;obtain ⟨⟨⟨h3,h4⟩,h5⟩,h6⟩:=h1;have h7:=congrArg List.length (xL h6);rw [dQ,dQ] at h7;obtain ⟨h8,h9⟩:=B3 l k (a+1) x y h7 h2;exact ⟨by rw [er,er,h3,h4,h5,h8],h9⟩
theorem B3:∀ (l k:List T) (a:Nat) (x y:List Nd),l.length=k.length->eU ki (dV a l++x) (dV a k++y)=true->aL l=aL k/\eU ki x y=true
 | [],[],a,x,y,_,h=>by rw [dV,nil_append,nil_append] at h;exact ⟨rfl,h⟩
 | t::r,u::s,a,x,y,hl,h=>by
  rw [dV,dV,append_assoc,append_assoc] at h;obtain ⟨h1,h2⟩:=Sk t u a _ _ h
  have hz:aO t=aO u:=by rw [<-uW t,h1,uW u]
  rw [<-hz] at h2;obtain ⟨h3,h4⟩:=B3 r s _ x y (by simpa using hl) h2;exact ⟨by rw [aL,aL,h1,h3],h4⟩
 | [],u::s,a,x,y,hl,h=>by simp at hl
 | t::r,[],a,x,y,hl,h=>by simp at hl
end
theorem Sj {l k:List T} (hl:l.length=k.length) (h:eU ki (dV 0 l) (dV 0 k)=true):aL l=aL k:=by
 have:=B3 l k 0 [] [] hl (by rw [append_nil,append_nil];exact h);exact this.1
end Go.Im
namespace Go.Im
open Go.Xp Go.Sp
structure PS where
 trees:List T
 globals:List ai
 arrays:List Ar
 fns:List (ai × List ai)
def PS.empty:PS:=⟨[],[],[],[]⟩
def n7:Nat->List ai->RS->Option (List ai × RS)
 | 0,_,_=>none
 | f+1,acc,p =>
  if p.code=0/\is p 0 [41]=false then n7 f (acc++[(tok (if acc.length=0 then p else want p [44]) 0).s]) (bg (if acc.length=0 then p else want p [44]))
  else some (acc,want p [41])
def iW (f:Nat) (p:RS) (st:PS):Option (RS × PS) :=
 if is p 0 kK=true then
  if (bg p.next).code=0/\is (bg p.next) 0 [91]=true then
   if (tok (bg p.next).next 0).kind=1 then
    some (want (want (bg p.next).next.next [93]) [59],{ st with arrays:=st.arrays++[⟨(tok p.next 0).s,(tok (bg p.next).next 0).n⟩] })
   else some (jB (bg p.next).next,st)
  else some (want (bg p.next) [59],{ st with globals:=st.globals++[(tok p.next 0).s] })
 else if is p 0 lU=true then
  match n7 f [] (want (bg p.next) [40]) with
  | none=>none
  | some (l,q) =>
   if q.code=0 then match iS f (.block 1) q with
    | none=>none
    | some (t,q)=>some (q,{ st with trees:=st.trees++[t],fns:=st.fns++[((tok p.next 0).s,l)] })
   else some (q,st)
 else some (jB p,st)
def mo:Nat->Nat->RS->PS->Option (RS × PS)
 | 0,_,_,_=>none
 | g+1,f,p,st =>
  if p.code=0/\p.i < p.l.length then match iW f p st with
   | none=>none
   | some (p,st)=>mo g f p st
  else some (p,st)
theorem Mm:∀ (f:Nat) (acc:List ai) (p:RS) (l:List ai) (q:RS),p.ok->n7 f acc p=some (l,q)->p.to q
 | 0,_,_,_,_,_,h=>by cases h
 | f+1,acc,p,l,q,hp,h=>by
  rw [n7] at h;split at h
  ·have h1:p.to (if acc.length=0 then p else want p [44]):=by split;exact ji hp;exact bY hp _
   have h2:=gx (h1.ok hp);have h3:=Mm f _ _ l q ((h1.trans h2).ok hp) h;exact (h1.trans h2).trans h3
  ·cases h;exact bY hp _
theorem VR {f:Nat} {p q:RS} {st dK:PS} (hp:p.ok) (h:iW f p st=some (q,dK)):p.to q:=by
 unfold iW at h;split at h
 ·rename_i hi;have h1:=iZ hi;have h2:=h1.trans (gx (h1.ok hp));split at h
  ·rename_i hb;have h3:=h2.trans (iZ hb.2);split at h
   ·rename_i hk
    have kR:(tok (bg p.next).next 0).kind≠0:=by rw [hk];decide
    have h4:=h3.trans (di (by have:=qX kR;exact this));have h5:=h4.trans (bY (h4.ok hp) [93])
    cases h;exact h5.trans (bY (h5.ok hp) _)
   ·cases h;exact h3.trans (vQ (h3.ok hp))
  ·cases h;exact h2.trans (bY (h2.ok hp) _)
 ·split at h
  ·rename_i hi;have h1:=iZ hi;have h2:=h1.trans (gx (h1.ok hp));have h3:=h2.trans (bY (h2.ok hp) [40])
   cases hm:n7 f [] (want (bg p.next) [40]) with
   | none=>rw [hm] at h;cases h
   | some r =>
    obtain ⟨l,q1⟩:=r;rw [hm] at h;simp only at h;have h4:=h3.trans (Mm _ _ _ _ _ (h3.ok hp) hm);split at h
    ·cases hb:iS f (.block 1) q1 with
     | none=>rw [hb] at h;cases h
     | some r =>
      obtain ⟨t,q2⟩:=r;rw [hb] at h;cases h;exact h4.trans ((Dz f).1 _ _ _ _ (h4.ok hp) hb)
    ·cases h;exact h4
  ·cases h;exact vQ hp
structure PS.le (a:PS) (n:Nat):Prop where
 trees:a.trees.length<=n
 globals:a.globals.length<=n
 arrays:a.arrays.length<=n
 fns:a.fns.length=a.trees.length
theorem VP {f n:Nat} {p q:RS} {st dK:PS} (h:iW f p st=some (q,dK)) (hs:st.le n):dK.le (n+1):=by
 obtain ⟨a,b,c,d⟩:=hs;have key:st.le (n+1):=⟨by omega,by omega,by omega,d⟩;unfold iW at h;split at h
 ·split at h
  ·split at h
   ·cases h;exact ⟨by simp;omega,by simp;omega,by simp;omega,by simp;omega⟩
   ·cases h;exact key
  ·cases h;exact ⟨by simp;omega,by simp;omega,by simp;omega,by simp;omega⟩
 ·split at h
  ·split at h
   ·cases h
   ·split at h
    ·split at h
     ·cases h
     ·cases h;exact ⟨by simp;omega,by simp;omega,by simp;omega,by simp;omega⟩
    ·cases h;exact key
  ·cases h;exact key
end Go.Im
namespace Go.Sp
open Go.Xp
inductive Tz (s:ai):Nat->List Tok->Nat->Prop
 | nil (a:Nat):Tz s a [] a
 | blank {a b:Nat} {c:UInt8} {ts:List Tok} (hc:s[a]?=some c) (hb:dv c=true) (h:Tz s (a+1) ts b):Tz s a ts b
 | tok {a a' b:Nat} {c:UInt8} {t:Tok} {ts:List Tok} (hc:s[a]?=some c) (hb:dv c=false) (hr:br s a [47,42]=false) (ht:iq s a c=(t,a')) (hk:t.kind=1\/t.kind=2\/t.kind=3) (hn:t.n<=2147483647) (ha:a < a') (h:Tz s a' ts b):Tz s a (t::ts) b
theorem Tz.app {s:ai} {a b c:Nat} {ts us:List Tok} (h:Tz s a ts b) (k:Tz s b us c):Tz s a (ts++us) c:=by
 induction h with
 | nil a=>exact k
 | blank hc hb h ih=>exact .blank hc hb (ih k)
 | tok hc hb hr ht hk hn ha h ih=>exact .tok hc hb hr ht hk hn ha (ih k)
theorem Tz.kinds {s:ai} {a b:Nat} {ts:List Tok} (h:Tz s a ts b):∀ t∈ts,t.kind=1\/t.kind=2\/t.kind=3:=by
 induction h with
 | nil a=>intro t h;cases h
 | blank hc hb h ih=>exact ih
 | tok hc hb hr ht hk hn ha h ih =>
  intro t h
  rcases List.mem_cons.1 h with rfl | h
  ·exact hk
  ·exact ih t h
theorem Tz.len {s:ai} {a b:Nat} {ts:List Tok} (h:Tz s a ts b):a+ts.length<=b:=by
 induction h with
 | nil a=>simp
 | blank hc hb h ih=>omega
 | tok hc hb hr ht hk hn ha h ih=>simp only [length_cons];omega
theorem M5 (s:ai):∀ (f f' a:Nat),a<=s.length->s.length < f+a->s.length < f'+a->skip s f a=skip s f' a:=by
 intro f
 induction f with
 | zero=>intro f' a h1 h2;omega
 | succ f ih =>
  intro f' a h1 h2 h3;obtain ⟨f',rfl⟩:∃ g,f'=g+1:=⟨f' - 1,by omega⟩;rw [skip,skip]
  cases hc:s[a]? with
  | none=>rfl
  | some c =>
   simp only;have ar:=(List.getElem?_eq_some_iff.1 hc).1;split
   ·exact ih f' (a+1) (by omega) (by omega) (by omega)
   ·split
    ·rename_i hb;have hb:=iX hb;have hb:a+2<=s.length:=hb;have h4:=rv s s.length (a+2) hb;have h5:=qv s s.length (a+2) hb (by omega);split
     ·rfl
     ·rename_i hn
      have h6:br s (eI s s.length (a+2)) [42,47]=true:=by
       cases oG:br s (eI s s.length (a+2)) [42,47] with
       | true=>rfl
       | false=>exact absurd ⟨by omega,oG⟩ h5
      have h6:=iX h6;have h6:eI s s.length (a+2)+2<=s.length:=h6;exact ih f' _ (by omega) (by omega) (by omega)
    ·rfl
theorem Tz.ia {s:ai} {a b:Nat} {ts:List Tok} (h:Tz s a ts b):∀ (f:Nat) (acc:List Tok),pD s (f+ts.length) (skip s (s.length+1) a).1 acc=pD s f (skip s (s.length+1) b).1 (acc++ts):=by
 induction h with
 | nil a=>intro f acc;simp
 | blank hc hb h ih =>
  rename_i a b c ts;intro f acc;have ar:=(List.getElem?_eq_some_iff.1 hc).1;rw [<-ih f acc]
  have:skip s (s.length+1) a=skip s (s.length+1) (a+1):=by
   rw [skip,hc];simp only;rw [if_pos hb];exact M5 s _ _ _ (by omega) (by omega) (by omega)
  rw [this]
 | tok hc hb hr ht hk hn ha h ih =>
  rename_i a a' b c t ts;intro f acc
  have:skip s (s.length+1) a=(a,-1):=by
   rw [skip,hc];simp only;rw [if_neg (by rw [hb];decide),if_neg (by rw [hr];decide)]
  rw [this,length_cons,<-Nat.add_assoc,pD,hc];simp only [ht];rw [ih f (acc++[t]),append_assoc];rfl
theorem Tz.all {s:ai} {ts:List Tok} (h:Tz s 0 ts s.length):Go.Sp.ia s=some ts:=by
 have h1:=h.len;have h2:=h.ia (s.length+2 - ts.length) [];unfold Go.Sp.ia;rw [show s.length+2 - ts.length+ts.length=s.length+2 by omega] at h2;rw [h2]
 have h3:skip s (s.length+1) s.length=(s.length,-1):=by rw [skip];simp
 rw [h3];obtain ⟨g,hg⟩:∃ g,s.length+2 - ts.length=g+1:=⟨s.length+1 - ts.length,by omega⟩;rw [hg,pD];simp
theorem lZ {s r:ai} {a:Nat} {c:UInt8} (h:s.drop a=c::r):s[a]?=some c/\s.drop (a+1)=r/\a < s.length:=by
 have h1:s[a]?=some c:=by
  have:=List.getElem?_drop (xs:=s) (i:=a) (j:=0);rw [h] at this;simpa using this.symm
 refine ⟨h1,?_,(List.getElem?_eq_some_iff.1 h1).1⟩;rw [<-List.tail_drop,h];rfl
theorem Sg (s:ai) (p:UInt8->Bool):∀ (w post:ai) (f a:Nat),s.drop a=w++post->(∀ c∈w,p c=true)->run s p (f+w.length) a=run s p f (a+w.length):=by
 intro w
 induction w with
 | nil=>intro post f a h hp;rfl
 | cons c w ih =>
  intro post f a h hp;obtain ⟨h1,h2,_⟩:=lZ h;rw [length_cons,<-Nat.add_assoc,run,h1];simp only;rw [if_pos (hp c (mem_cons_self)),ih post f (a+1) h2 (fun c hc=>hp c (mem_cons_of_mem _ hc))]
  congr 1;omega
theorem Pv (s:ai) (p:UInt8->Bool) (post:ai) (f a:Nat) (h:s.drop a=post) (hp:∀ c,post.head?=some c->p c=false):run s p f a=a:=by
 cases f with
 | zero=>rfl
 | succ f =>
  rw [run]
  cases post with
  | nil =>
   have:s[a]?=none:=by
    rw [List.getElem?_eq_none_iff];have:=congrArg List.length h;simp at this;omega
   rw [this]
  | cons c r =>
   obtain ⟨h1,_,_⟩:=lZ h;rw [h1];simp only;rw [if_neg (by rw [hp c rfl];decide)]
theorem take_drop {s w post:ai} {a:Nat} (h:s.drop a=w++post):(s.take (a+w.length)).drop a=w:=by
 rw [List.drop_take,h,Nat.add_sub_cancel_left,List.take_left]
theorem EZ {s w post:ai} {a:Nat} (h:s.drop a=w++post) (ha:a<=s.length):a+w.length+post.length=s.length:=by
 have:=congrArg List.length h;simp only [length_drop,length_append] at this;omega
theorem P3 {s w post:ai} {a:Nat} {c:UInt8} {r:ai} (ha:a<=s.length) (h:s.drop a=w++post) (hw:w=c::r) (hs:small c=true) (aR:∀ c∈w,dG c=true) (hp:∀ c,post.head?=some c->dG c=false) :
  iq s a c=(⟨if words.contains w=true then 3 else 2,0,w,a⟩,a+w.length):=by
 have hl:=EZ h ha
 have he:ek s a=a+w.length:=by
  unfold ek;obtain ⟨g,hg⟩:∃ g,s.length+1=g+w.length:=⟨s.length+1 - w.length,by omega⟩;rw [hg,Sg s dG w post g a h aR];refine Pv s dG post g _ ?_ hp;rw [<-List.drop_drop,h,drop_left]
 have hd:dO c=false:=by
  simp only [small,dO,Bool.and_eq_true] at hs |-;have h1:=of_decide_eq_true hs.1
  have:¬ ((c.toNat:Int)<=57):=by omega
  simp [this]
 unfold iq;rw [if_neg (by rw [hd];decide),if_pos hs];unfold eR;rw [he,take_drop h]
def fold (n:Int) (w:ai):Int:=w.foldl (fun n c=>if n<=2147483647 then n * 10+((c.toNat:Int) - 48) else n) n
theorem JV (s:ai):∀ (w post:ai) (f:Nat) (n:Int) (a:Nat),s.drop a=w++post->(∀ c∈w,dO c=true)->number s (f+w.length) n a=number s f (fold n w) (a+w.length):=by
 intro w
 induction w with
 | nil=>intro post f n a h hp;rfl
 | cons c w ih =>
  intro post f n a h hp;obtain ⟨h1,h2,_⟩:=lZ h;rw [length_cons,<-Nat.add_assoc,number,h1];simp only;rw [if_pos (hp c (mem_cons_self)),ih post f _ (a+1) h2 (fun c hc=>hp c (mem_cons_of_mem _ hc))];rw [show a+1+w.length=a+(w.length+1) by omega];rfl
theorem GP (s:ai) (post:ai) (f:Nat) (n:Int) (a:Nat) (h:s.drop a=post) (hp:∀ c,post.head?=some c->dO c=false):number s f n a=(n,a):=by
 cases f with
 | zero=>rfl
 | succ f =>
  rw [number]
  cases post with
  | nil =>
   have:s[a]?=none:=by
    rw [List.getElem?_eq_none_iff];have:=congrArg List.length h;simp at this;omega
   rw [this]
  | cons c r =>
   obtain ⟨h1,_,_⟩:=lZ h;rw [h1];simp only;rw [if_neg (by rw [hp c rfl];decide)]
theorem Ld (k:Nat) (h:k<=9):dO (UInt8.ofNat (48+k))=true/\((UInt8.ofNat (48+k)).toNat:Int)=48+k:=by
 have:(UInt8.ofNat (48+k)).toNat=48+k:=by simp;omega
 refine ⟨?_,by rw [this];omega⟩;simp only [dO,Bool.and_eq_true,this];exact ⟨decide_eq_true (by omega),decide_eq_true (by omega)⟩
theorem Hk (n:Nat):(∀ c∈cm n,dO c=true)/\(n<=2147483647->fold 0 (cm n)=n)/\cm n≠[]:=by
 induction n using Nat.strongRecOn with
 | _ n ih =>
 unfold cm
 by_cases h:n < 10
 ·rw [dif_pos h];obtain ⟨h1,h2⟩:=Ld n (by omega);refine ⟨fun c hc=>by rw [mem_singleton] at hc;subst hc;exact h1,fun _=>?_,by simp⟩;simp only [fold,foldl_cons,List.foldl_nil];rw [if_pos (by omega),h2];omega
 ·rw [dif_neg h];obtain ⟨h1,h2,h3⟩:=ih (n / 10) (by omega);obtain ⟨h4,h5⟩:=Ld (n % 10) (by omega);refine ⟨fun c hc=>?_,fun hn=>?_,by simp⟩
  ·rcases List.mem_append.1 hc with hc | hc
   ·exact h1 c hc
   ·rw [mem_singleton] at hc;subst hc;exact h4
  ·have:=h2 (by omega);unfold fold at this |-;rw [List.foldl_append,this];simp only [foldl_cons,List.foldl_nil];rw [if_pos (by omega),h5];omega
theorem R0 {s post:ai} {n a:Nat} {c:UInt8} {r:ai} (ha:a<=s.length) (h:s.drop a=cm n++post) (hw:cm n=c::r) (hn:n<=2147483647) (hp:∀ c,post.head?=some c->dO c=false) :
  iq s a c=(⟨1,n,[],a⟩,a+(cm n).length):=by
 obtain ⟨h1,h2,h3⟩:=Hk n;have hl:=EZ h ha;have hd:dO c=true:=h1 c (by rw [hw];exact mem_cons_self);obtain ⟨g,hg⟩:∃ g,s.length+1=g+(cm n).length:=⟨s.length+1 - (cm n).length,by omega⟩;unfold iq;rw [if_pos hd,hg,JV s (cm n) post g 0 a h h1,h2 hn,GP s post g _ _ (by rw [<-List.drop_drop,h,drop_left]) hp]
theorem tJ {s r t:ai} {a:Nat} (h:s.drop a=r) (ha:a<=s.length):br s a t=t.isPrefixOf r:=by
 have hl:a+r.length=s.length:=by have:=congrArg List.length h;simp at this;omega
 unfold br;rw [List.drop_take,h,Nat.add_sub_cancel_left]
 by_cases hp:t <+: r
 ·obtain ⟨z,rfl⟩:=hp;simp only [length_append] at hl
  have h2:t.isPrefixOf (t++z)=true:=by rw [List.isPrefixOf_iff_prefix];exact ⟨z,rfl⟩
  rw [h2,List.take_left];simp only [Bool.and_eq_true,beq_self_eq_true,and_true,decide_eq_true_eq];omega
 ·have h1:t.isPrefixOf r=false:=by
   cases hh:t.isPrefixOf r with
   | false=>rfl
   | true=>exact absurd (List.isPrefixOf_iff_prefix.1 hh) hp
  rw [h1]
  have h2:(r.take t.length==t)=false:=by
   rw [beq_eq_false_iff_ne];intro h3;exact hp ⟨r.drop t.length,by have:=take_append_drop t.length r;rw [h3] at this;exact this⟩
  rw [h2,Bool.and_false]
def B0:List UInt8:=[32,40,41,91,93,44,59,123,125,10]
def Sep (post:ai):Prop:=∀ c,post.head?=some c->c∈B0
theorem Sep.dG {post:ai} (h:Sep post):∀ c,post.head?=some c->dG c=false:=by
 intro c hc
 have:∀ c∈B0,Go.Sp.dG c=false:=by decide
 exact this c (h c hc)
theorem Sep.dO {post:ai} (h:Sep post):∀ c,post.head?=some c->dO c=false:=by
 intro c hc
 have:∀ c∈B0,Go.Sp.dO c=false:=by decide
 exact this c (h c hc)
theorem R8 {x y z:ai} (h:x.length<=y.length):x.isPrefixOf (y++z)=x.isPrefixOf y:=by
 induction x generalizing y with
 | nil=>simp
 | cons a x ih =>
  cases y with
  | nil=>simp at h
  | cons b y=>simp only [cons_append,List.isPrefixOf];rw [ih (by simpa using h)]
theorem find_congr {α:Type} {p q:α->Bool}:∀ {l:List α},(∀ x∈l,p x=q x)->l.find? p=l.find? q
 | [],_=>rfl
 | a::l,h=>by rw [List.find?_cons,List.find?_cons,h a (mem_cons_self),find_congr (fun x hx=>h x (mem_cons_of_mem _ hx))]
theorem PB {s w post:ai} {a:Nat} {c:UInt8} {r:ai} (ha:a<=s.length) (h:s.drop a=w++post) (hw:w=c::r) (hm:w∈bD) (hp:Sep post) :
  iq s a c=(⟨3,0,w,a⟩,a+w.length)/\dv c=false/\br s a [47,42]=false:=by
 have hd:∀ w∈bD,∀ c,w.head?=some c->dO c=false/\small c=false/\dv c=false:=by
  have:∀ w∈bD,(match w.head? with | some c=>!dO c&&!small c&&!dv c | none=>true)=true:=by decide
  intro w hw c hc;have:=this w hw;rw [hc] at this;simp only [Bool.and_eq_true,Bool.not_eq_true'] at this;exact ⟨this.1.1,this.1.2,this.2⟩
 obtain ⟨h1,h2,h3⟩:=hd w hm c (by rw [hw];rfl)
 have Jo:∀ w∈bD,w.length<=2/\1<=w.length:=by decide
 have key:∀ w∈bD,bD.find? (fun x=>x.isPrefixOf w)=some w/\[47,42].isPrefixOf w=false:=by decide
 have Yd:∀ w∈bD,∀ c∈B0,bD.find? (fun x=>x.isPrefixOf (w++[c]))=some w/\[47,42].isPrefixOf (w++[c])=false:=by decide
 have hf:bD.find? (br s a)=some w/\br s a [47,42]=false:=by
  have e1:∀ x,br s a x=x.isPrefixOf (w++post):=fun x=>tJ h ha
  have e2:bD.find? (br s a)=bD.find? (fun x=>x.isPrefixOf (w++post)):=find_congr fun x _=>e1 x
  rw [e2,e1]
  cases post with
  | nil=>rw [append_nil];exact key w hm
  | cons c' post =>
   have de:=hp c' rfl
   have e3:∀ x:ai,x.length<=2->x.isPrefixOf (w++c'::post)=x.isPrefixOf (w++[c']):=fun x hx=>by
    rw [show w++c'::post=(w++[c'])++post by simp];exact R8 (by rw [length_append];have:=(Jo w hm).2;simp;omega)
   rw [find_congr fun x hx=>e3 x (Jo x hx).1,e3 _ (by decide)];exact Yd w hm c' de
 refine ⟨?_,h3,hf.2⟩;unfold iq;rw [if_neg (by rw [h1];decide),if_neg (by rw [h2];decide),hf.1]
theorem OC {s post:ai} {a:Nat} {c:UInt8} (ha:a<=s.length) (h:s.drop a=c::post) (hm:c∈[40,41,91,93,44,59,123,125]) :
  iq s a c=(⟨3,0,[c],a⟩,a+1)/\dv c=false/\br s a [47,42]=false:=by
 have hd:∀ c∈([40,41,91,93,44,59,123,125]:List UInt8),dO c=false/\small c=false/\dv c=false/\c≠47:=by decide
 obtain ⟨h1,h2,h3,h4⟩:=hd c hm
 have e1:∀ x,br s a x=x.isPrefixOf (c::post):=fun x=>tJ h ha
 have e2:bD.find? (br s a)=bD.find? (fun x=>x.isPrefixOf (c::post)):=find_congr fun x _=>e1 x
 have key:∀ post:ai,∀ c∈([40,41,91,93,44,59,123,125]:List UInt8),bD.find? (fun x=>x.isPrefixOf (c::post))=some [c]:=by
  intro post c hc;simp only [List.mem_cons,List.not_mem_nil,or_false] at hc
  rcases hc with rfl | rfl | rfl | rfl | rfl | rfl | rfl | rfl <;> rfl
 refine ⟨?_,h3,?_⟩
 ·unfold iq;rw [if_neg (by rw [h1];decide),if_neg (by rw [h2];decide),e2,key post c hm];rfl
 ·rw [e1];simp only [List.isPrefixOf]
  have:((47:UInt8)==c)=false:=by rw [beq_eq_false_iff_ne];exact fun h=>h4 h.symm
  rw [this,Bool.false_and]
end Go.Sp
namespace Go.Im
open Go.Xp Go.Sp
def la:List ai:=[[105,110,116],[118,97,114],[102,117,110,99],[105,102],[101,108,115,101],[119,104,105,108,101],[114,101,116,117,114,110],[124,124],[38,38],[61,61],[33,61],[60,61],[62,61],[60,60],[62,62],[40],[41],[123],[125],[91],[93],[44],[59],[61],[60],[62],[43],[45],[42],[47],[37],[38],[124],[94],[33],[126]]
theorem xw:la=words++bD:=by decide
def jo (s:ai):Bool:=la.contains s
def ju:ai->Int->Int
 | [],n=>n
 | c::r,n=>if n<=2147483647 then ju r (10 * n+((c.toNat:Int) - 48)) else n
def cl (s:ai) (a b:Nat):ai:=(s.take b).drop a
def fV (s:ai) (a:Nat) (k:Nat):Bool:=decide (a+k<=s.length)&&(match s[a]? with | some c=>!(small c) | none=>false)&&jo (cl s a (a+k))
def fx (s:ai) (a:Nat):ai:=if fV s a 2=true then cl s a (a+2) else if fV s a 1=true then cl s a (a+1) else []
def jk (s:ai) (a:Nat):Nat:=run s dO (s.length+1) a
def pB:Tok:=⟨0,0,[],0⟩
def jK (s:ai) (a:Nat) (c:UInt8):Tok × Nat × Int :=
 if dO c=true then
  if ju (cl s a (jk s a)) 0 > 2147483647 then (pB,a,3) else (⟨1,ju (cl s a (jk s a)) 0,[],a⟩,jk s a,0)
 else if small c=true then (⟨if jo (eR s a)=true then 3 else 2,0,eR s a,a⟩,ek s a,0)
 else if fx s a=[] then (pB,a,2)
 else (⟨3,0,fx s a,a⟩,a+(fx s a).length,0)
def pf:ai->Option Nat
 | []=>none
 | b::l=>if List.isPrefixOf [42,47] (b::l) then some 0 else match pf l with | none=>none | some n=>some (n+1)
def me (s:ai):Nat->Nat->List Tok->Option (List Tok × Int × Int)
 | 0,_,_=>none
 | f+1,a,acc=>match s[a]? with
  | none=>some (acc,0,0)
  | some c =>
   if dv c=true then me s f (a+1) acc
   else if br s a [47,42]=true then
    match pf (s.drop (a+2)) with
    | none=>some ([],4,a)
    | some n=>me s f (a+(n+4)) acc
   else if (jK s a c).2.2≠0 then some ([],(jK s a c).2.2,a)
   else me s f (jK s a c).2.1 (acc++[(jK s a c).1])
structure zQ (t:Tok):Prop where
 num:t.kind=1->0<=t.n/\t.n<=2147483647/\t.s=[]
 name:t.kind=2->word t.s=true/\jo t.s=false
 sign:t.kind=3->jo t.s=true
 kinds:t.kind=1\/t.kind=2\/t.kind=3
theorem ku {s:ai} {a b:Nat} (h:b<=s.length):(cl s a b).length=b - a:=by
 unfold cl;rw [length_drop,length_take];omega
theorem oD {s:ai} {a b:Nat} {c:UInt8} (h:s[a]?=some c) (hb:a < b) (hl:b<=s.length):cl s a b=c::cl s (a+1) b:=by
 unfold cl;have ar:=(List.getElem?_eq_some_iff.1 h).1
 have:(s.take b)[a]?=some c:=by rw [getElem?_take,if_pos hb];exact h
 have h2:=(List.getElem?_eq_some_iff.1 this);rw [List.drop_eq_getElem_cons h2.1,h2.2]
theorem BX (s:ai) (p:UInt8->Bool):∀ (f a:Nat),a<=s.length->∀ c∈cl s a (run s p f a),p c=true:=by
 intro f
 induction f with
 | zero =>
  intro a ha c hc;rw [Go.Sp.run] at hc
  have:(cl s a a).length=0:=by rw [ku ha];omega
  rw [eq_nil_of_length_eq_zero this] at hc;cases hc
 | succ f ih =>
  intro a ha c hc;rw [Go.Sp.run] at hc
  have EC:∀ x:ai,x=cl s a a->c∈x->p c=true:=fun x hx hm=>by
   have:(cl s a a).length=0:=by rw [ku ha];omega
   rw [hx,eq_nil_of_length_eq_zero this] at hm;cases hm
  cases hq:s[a]? with
  | none=>rw [hq] at hc;exact EC _ rfl hc
  | some d =>
   rw [hq] at hc;simp only at hc;have ar:=(List.getElem?_eq_some_iff.1 hq).1
   by_cases hp:p d=true
   ·rw [if_pos hp] at hc
    have kQ:a+1<=Go.Sp.run s p f (a+1)/\Go.Sp.run s p f (a+1)<=s.length:=by
     have:∀ (f a:Nat),a<=s.length->a<=Go.Sp.run s p f a/\Go.Sp.run s p f a<=s.length:=by
      intro f
      induction f with
      | zero=>intro a h;exact ⟨Nat.le_refl _,h⟩
      | succ f ih =>
       intro a h;rw [Go.Sp.run]
       cases hq:s[a]? with
       | none=>exact ⟨Nat.le_refl _,h⟩
       | some d =>
        simp only;split
        ·have:=ih (a+1) (List.getElem?_eq_some_iff.1 hq).1;omega
        ·exact ⟨Nat.le_refl _,h⟩
     exact this f (a+1) ar
    rw [oD hq (by omega) kQ.2] at hc
    rcases List.mem_cons.1 hc with rfl | hc
    ·exact hp
    ·exact ih (a+1) ar c hc
   ·rw [if_neg hp] at hc;exact EC _ rfl hc
theorem Ih:∀ (w:ai) (n:Int),0<=n->(∀ c∈w,dO c=true)->0<=ju w n
 | [],n,h,_=>h
 | c::r,n,h,hd=>by
  rw [ju];have hc:=hd c (mem_cons_self);simp only [dO,Bool.and_eq_true,decide_eq_true_eq] at hc;split
  ·exact Ih r _ (by omega) (fun c hc=>hd c (mem_cons_of_mem _ hc))
  ·exact h
theorem OZ {x:ai} (h:jo x=true):x≠[]:=by
 intro h0;subst h0;revert h;decide
theorem IG {s:ai} {a:Nat} {c:UInt8} (hc:s[a]?=some c) (h0:(jK s a c).2.2=0):zQ (jK s a c).1/\(jK s a c).1.at_=a/\a < (jK s a c).2.1/\(jK s a c).2.1<=s.length:=by
 have ar:=(List.getElem?_eq_some_iff.1 hc).1;unfold jK at h0 |-
 by_cases hd:dO c=true
 ·rw [if_pos hd] at h0 |-
  by_cases hn:ju (cl s a (jk s a)) 0 > 2147483647
  ·rw [if_pos hn] at h0;cases h0
  ·rw [if_neg hn];obtain ⟨e1,e2,e3⟩:=oS s dO (s.length+1) a (by omega) (by omega)
   have yD:a < jk s a:=by
    rcases Nat.lt_or_ge a (jk s a) with h | h
    ·exact h
    ·have he:Go.Sp.run s dO (s.length+1) a=a:=by unfold jk at h;omega
     have:=e1 c (by rw [he];exact hc);rw [hd] at this;cases this
   refine ⟨⟨fun _=>⟨Ih _ _ (by decide) (BX s dO _ a (by omega)),by simpa using hn,rfl⟩,fun h=>by simp at h,fun h=>by simp at h,.inl rfl⟩,rfl,yD,e3⟩
 ·rw [if_neg hd] at h0 |-
  by_cases hs:small c=true
  ·rw [if_pos hs];obtain ⟨e1,e2,e3⟩:=oS s dG (s.length+1) a (by omega) (by omega)
   have qL:dG c=true:=by simp [dG,hs]
   have yD:a < ek s a:=by
    rcases Nat.lt_or_ge a (ek s a) with h | h
    ·exact h
    ·have he:Go.Sp.run s dG (s.length+1) a=a:=by unfold ek at h;omega
     have:=e1 c (by rw [he];exact hc);rw [qL] at this;cases this
   have hw:word (eR s a)=true:=by
    have h1:eR s a=c::cl s (a+1) (ek s a):=oD hc yD e3;have h2:=BX s dG (s.length+1) a (by omega);unfold word;have h3:(eR s a).all dG=true:=List.all_eq_true.2 h2;rw [h3,h1];simp [hs]
   refine ⟨⟨fun h=>?_,fun h=>⟨hw,?_⟩,fun h=>?_,?_⟩,rfl,yD,e3⟩
   ·simp only at h;split at h <;> cases h
   ·simp only at h;split at h
    ·cases h
    ·rename_i hh;simpa using hh
   ·simp only at h;split at h
    ·assumption
    ·cases h
   ·simp only;split
    ·exact .inr (.inr rfl)
    ·exact .inr (.inl rfl)
  ·rw [if_neg hs] at h0 |-
   by_cases hg:fx s a=[]
   ·rw [if_pos hg] at h0;cases h0
   ·rw [if_neg hg]
    have key:jo (fx s a)=true/\a+(fx s a).length<=s.length:=by
     unfold fx at hg |-
     have aux:∀ k,fV s a k=true->jo (cl s a (a+k))=true/\a+(cl s a (a+k)).length<=s.length:=fun k h=>by
      simp only [fV,Bool.and_eq_true,decide_eq_true_eq] at h;refine ⟨h.2,?_⟩;rw [ku h.1.1];have:=h.1.1;omega
     split
     ·exact aux 2 (by assumption)
     ·rename_i h2;rw [if_neg h2] at hg;split
      ·exact aux 1 (by assumption)
      ·rename_i h1;rw [if_neg h1] at hg;exact absurd rfl hg
    have hl:=List.length_pos_iff.2 (OZ key.1);exact ⟨⟨fun h=>by simp at h,fun h=>by simp at h,fun _=>key.1,.inr (.inr rfl)⟩,rfl,by simp only;omega,key.2⟩
theorem BE:∀ {l:ai} {n:Nat},pf l=some n->n+2<=l.length
 | [],n,h=>by cases h
 | b::l,n,h=>by
  rw [pf] at h;split at h
  ·rename_i hp;cases h
   cases l with
   | nil=>simp [List.isPrefixOf] at hp
   | cons d l=>simp
  ·cases hq:pf l with
   | none=>rw [hq] at h;cases h
   | some m=>rw [hq] at h;cases h;have:=BE hq;simp only [length_cons];omega
theorem qR (s:ai):∀ (f a:Nat) (acc:List Tok),a<=s.length->s.length < f+a->(∀ t∈acc,zQ t)->(acc.Pairwise fun x y=>x.at_ < y.at_)->(∀ t∈acc,t.at_ < (a:Int))->acc.length<=a ->
  ∃ ts c z,me s f a acc=some (ts,c,z)/\(∀ t∈ts,zQ t)/\(ts.Pairwise fun x y=>x.at_ < y.at_)/\ts.length<=s.length
 | 0,a,acc,h1,h2,_,_,_,_=>by omega
 | f+1,a,acc,h1,h2,h3,h4,h5,h6=>by
  rw [me]
  cases hc:s[a]? with
  | none=>exact ⟨acc,0,0,rfl,h3,h4,by omega⟩
  | some c =>
   simp only;have ar:=(List.getElem?_eq_some_iff.1 hc).1;split
   ·exact qR s f (a+1) acc (by omega) (by omega) h3 h4 (fun t ht=>by have:=h5 t ht;omega) (by omega)
   ·split
    ·rename_i hb;have mi:=iX hb;simp only [length_cons,length_nil] at mi
     cases hi:pf (s.drop (a+2)) with
     | none=>exact ⟨[],4,a,rfl,fun t h=>by simp at h,.nil,Nat.zero_le _⟩
     | some n =>
      have:=BE hi;rw [length_drop] at this;exact qR s f (a+(n+4)) acc (by omega) (by omega) h3 h4 (fun t ht=>by have:=h5 t ht;omega) (by omega)
    ·split
     ·exact ⟨[],_,a,rfl,fun t h=>by simp at h,.nil,Nat.zero_le _⟩
     ·rename_i h0;obtain ⟨k1,k2,k3,k4⟩:=IG hc (by simpa using h0);refine qR s f _ _ k4 (by omega) (fun t ht=>?_) ?_ (fun t ht=>?_) (by rw [length_append];simp only [length_cons,length_nil];omega)
      ·rcases List.mem_append.1 ht with h | h
       ·exact h3 t h
       ·rw [mem_singleton] at h;subst h;exact k1
      ·rw [List.pairwise_append];refine ⟨h4,List.pairwise_singleton _ _,fun x hx y hy=>?_⟩;rw [mem_singleton] at hy;subst hy;rw [k2];exact h5 x hx
      ·rcases List.mem_append.1 ht with h | h
       ·have:=h5 t h;omega
       ·rw [mem_singleton] at h;subst h;rw [k2];omega
theorem yP (s:ai):∀ (f:Nat) (n:Int) (a:Nat),a<=s.length->s.length < f+a->ju (cl s a (number s f n a).2) n=(number s f n a).1
 | 0,n,a,h1,h2=>by omega
 | f+1,n,a,h1,h2=>by
  have EC:cl s a a=[]:=eq_nil_of_length_eq_zero (by rw [ku h1];omega);rw [number]
  cases hc:s[a]? with
  | none=>simp only;rw [EC,ju]
  | some c =>
   simp only;have ar:=(List.getElem?_eq_some_iff.1 hc).1
   by_cases hd:dO c=true
   ·rw [if_pos hd];obtain ⟨e1,e2,e3⟩:=vH s f (if n<=2147483647 then n * 10+((c.toNat:Int) - 48) else n) (a+1) (by omega) (by omega);rw [oD hc (by omega) e3,ju];have ih:=yP s f (if n<=2147483647 then n * 10+((c.toNat:Int) - 48) else n) (a+1) (by omega) (by omega)
    by_cases hn:n<=2147483647
    ·rw [if_pos hn] at ih |-;rw [if_pos hn,Int.mul_comm 10 n];exact ih
    ·rw [if_neg hn] at ih |-;rw [if_neg hn];rw [<-ih]
     cases hw:cl s (a+1) (number s f n (a+1)).2 with
     | nil=>rw [ju]
     | cons d r=>rw [ju,if_neg hn]
   ·rw [if_neg hd];simp only;rw [EC,ju]
theorem AK (s:ai):∀ (f:Nat) (n:Int) (a:Nat),(number s f n a).2=Go.Sp.run s dO f a
 | 0,n,a=>rfl
 | f+1,n,a=>by
  rw [number,Go.Sp.run]
  cases hc:s[a]? with
  | none=>rfl
  | some c =>
   simp only;split
   ·exact AK s f _ (a+1)
   ·rfl
theorem ng {s x:ai} {a:Nat}:br s a x=(decide (a+x.length<=s.length)&&(cl s a (a+x.length)==x)):=rfl
theorem J8 {s:ai} {a:Nat} {c:UInt8} (hc:s[a]?=some c) (hs:small c=false):fx s a=(match bD.find? (br s a) with | some x=>x | none=>[]):=by
 have ar:=(List.getElem?_eq_some_iff.1 hc).1
 have h2:∀ x∈bD,x.length=1\/x.length=2:=by decide
 have Ao:bD=bD.take 8++bD.drop 8:=(take_append_drop 8 bD).symm
 have ja:∀ x∈bD.take 8,x.length=2:=by decide
 have eX:∀ x∈bD.drop 8,x.length=1:=by decide
 have hw:∀ x∈words,∃ d r,x=d::r/\small d=true:=by
  intro x hx
  have:∀ x∈words,(match x with | d::_=>small d | []=>false)=true:=by decide
  have:=this x hx
  cases x with
  | nil=>cases this
  | cons d r=>exact ⟨d,r,rfl,this⟩
 have OK:∀ k,1<=k->a+k<=s.length->cl s a (a+k)=c::cl s (a+1) (a+k):=fun k h1 h2=>oD hc (by omega) h2
 have dD:∀ k,1<=k->a+k<=s.length->(jo (cl s a (a+k))=true↔cl s a (a+k)∈bD):=fun k h1 h2=>by
  unfold jo;rw [xw,contains_iff_mem,List.mem_append];refine ⟨fun h=>h.resolve_left fun hm=>?_,.inr⟩;obtain ⟨d,r,e1,e2⟩:=hw _ hm;rw [OK k h1 h2] at e1
  cases e1;rw [hs] at e2;cases e2
 have Jt:∀ k,1<=k->(fV s a k=true↔a+k<=s.length/\cl s a (a+k)∈bD):=fun k h1=>by
  unfold fV;rw [hc];simp only [hs,Bool.not_false,Bool.and_true,Bool.and_eq_true,decide_eq_true_eq];exact ⟨fun ⟨p,q⟩=>⟨p,(dD k h1 p).1 q⟩,fun ⟨p,q⟩=>⟨p,(dD k h1 p).2 q⟩⟩
 have BD:∀ k,1<=k->k<=2->a+k<=s.length->cl s a (a+k)∈bD->(cl s a (a+k)).length=k:=fun k _ _ h _=>by rw [ku h];omega
 unfold fx
 by_cases t2:fV s a 2=true
 ·rw [if_pos t2];obtain ⟨p,q⟩:=(Jt 2 (by decide)).1 t2
  have hq:cl s a (a+2)∈bD.take 8:=by
   rw [Ao] at q
   rcases List.mem_append.1 q with h | h
   ·exact h
   ·have:=eX _ h;rw [ku p] at this;omega
  rw [Ao,List.find?_append]
  have:(bD.take 8).find? (br s a)=some (cl s a (a+2)):=by
   cases hf:(bD.take 8).find? (br s a) with
   | none =>
    rw [find?_eq_none] at hf;have h1:=hf _ hq;rw [ng,ku p,show a+(a+2 - a)=a+2 by omega] at h1;simp [p] at h1
   | some x =>
    have h1:=List.find?_some hf;have h3:=ja x (List.mem_of_find?_eq_some hf);rw [ng,h3] at h1;simp only [Bool.and_eq_true,beq_iff_eq] at h1;rw [h1.2]
  rw [this];rfl
 ·rw [if_neg t2]
  have XX:(bD.take 8).find? (br s a)=none:=by
   rw [find?_eq_none];intro x hx hb;rw [ng,ja x hx] at hb;simp only [Bool.and_eq_true,beq_iff_eq,decide_eq_true_eq] at hb;exact t2 ((Jt 2 (by decide)).2 ⟨hb.1,by rw [hb.2];exact List.mem_of_mem_take hx⟩)
  rw [Ao,List.find?_append,XX]
  by_cases t1:fV s a 1=true
  ·rw [if_pos t1];obtain ⟨p,q⟩:=(Jt 1 (by decide)).1 t1
   have hq:cl s a (a+1)∈bD.drop 8:=by
    rw [Ao] at q
    rcases List.mem_append.1 q with h | h
    ·have:=ja _ h;rw [ku p] at this;omega
    ·exact h
   have:(bD.drop 8).find? (br s a)=some (cl s a (a+1)):=by
    cases hf:(bD.drop 8).find? (br s a) with
    | none =>
     rw [find?_eq_none] at hf;have h1:=hf _ hq;rw [ng,ku p,show a+(a+1 - a)=a+1 by omega] at h1;simp [p] at h1
    | some x =>
     have h1:=List.find?_some hf;have h3:=eX x (List.mem_of_find?_eq_some hf);rw [ng,h3] at h1;simp only [Bool.and_eq_true,beq_iff_eq] at h1;rw [h1.2]
   rw [this];rfl
  ·rw [if_neg t1]
   have:(bD.drop 8).find? (br s a)=none:=by
    rw [find?_eq_none];intro x hx hb;rw [ng,eX x hx] at hb;simp only [Bool.and_eq_true,beq_iff_eq,decide_eq_true_eq] at hb;exact t1 ((Jt 1 (by decide)).2 ⟨hb.1,by rw [hb.2];exact List.mem_of_mem_drop hx⟩)
   rw [this];rfl
theorem SB {s:ai} {a a':Nat} {c:UInt8} {t:Tok} (hc:s[a]?=some c) (h:iq s a c=(t,a')) (hk:t.kind=1\/t.kind=2\/t.kind=3) (hn:t.n<=2147483647):jK s a c=(t,a',0):=by
 have ar:=(List.getElem?_eq_some_iff.1 hc).1;unfold iq at h;unfold jK
 by_cases hd:dO c=true
 ·rw [if_pos hd] at h |-;cases h;have e1:jk s a=(number s (s.length+1) 0 a).2:=(AK s _ 0 a).symm;rw [e1,yP s _ 0 a (by omega) (by omega),if_neg (by simpa using hn)]
 ·rw [if_neg hd] at h |-
  by_cases hs:small c=true
  ·rw [if_pos hs] at h |-;cases h
   have EL:∃ r,eR s a=c::r\/eR s a=[]:=by
    cases hw:eR s a with
    | nil=>exact ⟨[],.inr rfl⟩
    | cons d r =>
     obtain ⟨e1,e2,e3⟩:=oS s dG (s.length+1) a (by omega) (by omega)
     have qL:dG c=true:=by simp [dG,hs]
     have yD:a < ek s a:=by
      rcases Nat.lt_or_ge a (ek s a) with h | h
      ·exact h
      ·have he:Go.Sp.run s dG (s.length+1) a=a:=by unfold ek at h;omega
       have:=e1 c (by rw [he];exact hc);rw [qL] at this;cases this
     have h1:eR s a=c::cl s (a+1) (ek s a):=oD hc yD e3;rw [hw] at h1;cases h1;exact ⟨_,.inl rfl⟩
   have dD:jo (eR s a)=words.contains (eR s a):=by
    unfold jo;rw [xw]
    have Am:∀ x∈bD,(match x with | d::_=>small d | []=>true)=false:=by decide
    obtain ⟨r,h1⟩:=EL
    have:bD.contains (eR s a)=false:=by
     cases gE:bD.contains (eR s a) with
     | false=>rfl
     | true =>
      have:=Am _ (List.contains_iff_mem.1 gE)
      rcases h1 with h1 | h1 <;> rw [h1] at this <;> simp only at this
      ·rw [hs] at this;cases this
      ·cases this
    rw [Bool.eq_iff_iff,contains_iff_mem,List.mem_append,<-contains_iff_mem (as:=bD),this];simp
   rw [dD]
  ·rw [if_neg hs] at h |-;rw [J8 hc (by simpa using hs)]
   cases hf:bD.find? (br s a) with
   | none=>rw [hf] at h;cases h;simp at hk
   | some x =>
    rw [hf] at h;cases h;simp only;have hx:=List.mem_of_find?_eq_some hf
    have bL:x≠[]:=by
     intro h0;subst h0;revert hx;decide
    rw [if_neg bL]
theorem RU {s:ai} {a b:Nat} {ts:List Tok} (h:Tz s a ts b):b=s.length->∀ (f:Nat) (acc:List Tok),s.length < f+a->me s f a acc=some (acc++ts,0,0):=by
 induction h with
 | nil a =>
  intro hb f acc hf
  cases f with
  | zero=>omega
  | succ f =>
   rw [me];have:s[a]?=none:=List.getElem?_eq_none_iff.2 (by omega);rw [this];simp
 | blank hc mi h ih =>
  intro hb f acc hf
  cases f with
  | zero=>have:=(List.getElem?_eq_some_iff.1 hc).1;omega
  | succ f =>
   rw [me,hc];simp only;rw [if_pos mi];exact ih hb f acc (by omega)
 | tok hc mi hr ht hk hn ha h ih =>
  intro hb f acc hf
  cases f with
  | zero=>have:=(List.getElem?_eq_some_iff.1 hc).1;omega
  | succ f =>
   rw [me,hc];simp only;rw [if_neg (by rw [mi];decide),if_neg (by rw [hr];decide),SB hc ht hk hn];simp only [ne_eq,not_true_eq_false,if_false];rw [ih hb f _ (by omega)];simp
end Go.Im
namespace Go.Im
open Go.Xp Go.Sp
abbrev qF (ts:List Tok):Prop:=∀ t∈ts,zQ t
def EF (t:T):Prop:=∃ a:E,a.ok=true/\er t=a.tree
def Kr (l:List T):Prop:=∃ es:List E,E.cH es=true/\aL l=E.trees es
def Sf (ts r:List Tok) (n:Nat):Prop:=∃ pre,ts=pre++r/\n<=pre.length
theorem Sf.nil (ts:List Tok):Sf ts ts 0:=⟨[],rfl,Nat.zero_le _⟩
theorem Sf.one (t:Tok) (ts:List Tok):Sf (t::ts) ts 1:=⟨[t],rfl,Nat.le_refl _⟩
theorem Sf.trans {a b c:List Tok} {n m:Nat} (h:Sf a b n) (k:Sf b c m):Sf a c (n+m):=by
 obtain ⟨p,rfl,h⟩:=h;obtain ⟨q,rfl,k⟩:=k;exact ⟨p++q,by simp,by rw [length_append];omega⟩
theorem Sf.le {a b:List Tok} {n m:Nat} (h:Sf a b n) (k:m<=n):Sf a b m:=by
 obtain ⟨p,rfl,h⟩:=h;exact ⟨p,rfl,by omega⟩
theorem Sf.ok {a b:List Tok} {n:Nat} (h:Sf a b n) (k:qF a):qF b:=by
 obtain ⟨p,rfl,h⟩:=h
 exact fun t ht=>k t (List.mem_append_right _ ht)
theorem Sf.aI {e:Int} {s:ai} {ts r:List Tok} (hs:s≠[]) (h:aI e s ts=.ok r):Sf ts r 1:=by
 obtain ⟨u,rfl,_⟩:=vD hs h;exact .one u r
theorem Sf.sign {s:ai} {ts:List Tok} (hs:s≠[]) (h:sign ts 0=s):Sf ts ts.tail 1:=by
 obtain ⟨u,h1,_⟩:=sF hs h;rw [h1];exact .one u _
theorem Pz {s:ai} (h:jo s=false):words.contains s=false:=by
 unfold jo at h;rw [xw] at h
 cases hc:words.contains s with
 | false=>rfl
 | true =>
  rw [contains_iff_mem] at hc
  have:(words++bD).contains s=true:=by rw [contains_iff_mem];exact List.mem_append_left _ hc
  rw [h] at this;cases this
theorem V6 {t:Tok} (h:zQ t) (hk:t.kind=2) (hl:t.s.length<=12):bh t.s=true:=by
 obtain ⟨h1,h2⟩:=h.name hk;unfold bh;rw [h1,Pz h2];simpa using hl
theorem Sf.name {e:Int} {s:ai} {ts r:List Tok} (h:name e ts=.ok (s,r)) (ho:qF ts):Sf ts r 1/\bh s=true:=by
 obtain ⟨u,rfl,h1,rfl,h3⟩:=Fe h;exact ⟨.one u r,V6 (ho u mem_cons_self) h1 h3⟩
theorem Re {s:ai} {k:Nat} (h:s∈levels.getD k []):ej s=true:=by
 unfold ej;rw [any_eq_true];rw [List.getD_eq_getElem?_getD] at h
 cases hk:levels[k]? with
 | none=>rw [hk] at h;simp at h
 | some l =>
  rw [hk] at h;exact ⟨l,mem_of_getElem? hk,by rw [contains_iff_mem];exact h⟩
theorem iJ (k a:Int) (s:ai) (l:List T):aO (one k a s l)=az l+1:=by unfold one;rw [aO]
theorem Kr.snoc {l:List T} {t:T} (h:Kr l) (k:EF t):Kr (l++[t]):=by
 obtain ⟨es,h1,h2⟩:=h;obtain ⟨a,h3,h4⟩:=k
 have key:∀ es:List E,E.cH es=true->E.cH (es++[a])=true/\E.trees (es++[a])=E.trees es++[a.tree]:=by
  intro es
  induction es with
  | nil=>intro _;simp [E.cH,E.trees,h3]
  | cons b es ih =>
   intro h;simp only [E.cH,Bool.and_eq_true] at h;obtain ⟨k1,k2⟩:=ih h.2;simp only [cons_append,E.cH,E.trees,k1,k2,h.1];simp
 obtain ⟨k1,k2⟩:=key es h1;exact ⟨es++[a],k1,by rw [Hr,h2,k2,aL,aL,h4]⟩
def uC:nP->Nat
 | .loop _ _ out=>aO out
 | _=>0
def Z0:nP->Prop
 | .loop _ _ out=>EF out
 | _=>True
theorem Sa (e:Int):∀ f,(∀ j ts t r,qF ts->Z0 j->rd e f j ts=.ok (t,r)->EF t/\∃ n,Sf ts r n/\aO t<=n+uC j) /\
  (∀ d acc ts l r,qF ts->Kr acc->rd.args e f d acc ts=.ok (l,r)->Kr l/\∃ n,Sf ts r n/\az l+1<=n+az acc):=by
 intro f
 induction f with
 | zero=>exact ⟨fun j ts t r _ _ h=>by simp [rd] at h,fun d acc ts l r _ _ h=>by simp [rd.args] at h⟩
 | succ f ih =>
  obtain ⟨ih,xg⟩:=ih;refine ⟨fun j ts t r ho hj h=>?_,fun d acc ts l r ho hj h=>?_⟩
  ·cases j with
   | expr d =>
    rw [rd] at h;split at h
    ·cases h
    ·exact ih (.level 0 (d+1)) ts t r ho trivial h
   | level k d =>
    rw [rd] at h;split at h
    ·exact ih (.operand d) ts t r ho trivial h
    ·split at h
     ·cases h
     ·rename_i out il hx;obtain ⟨h1,n,h2,h3⟩:=ih (.level (k+1) d) ts out il ho trivial hx;obtain ⟨k1,m,k2,k3⟩:=ih (.loop k d out) il t r (h2.ok ho) h1 h;exact ⟨k1,n+m,h2.trans k2,by simp only [uC] at *;omega⟩
   | loop k d out =>
    cases ts with
    | nil=>rw [rd] at h;cases h;exact ⟨hj,0,.nil _,by simp only [uC];omega⟩
    | cons t0 r0 =>
     rw [rd] at h;split at h
     ·rename_i hc;split at h
      ·cases h
      ·rename_i b r1 hx;obtain ⟨⟨b',h0,h1⟩,n,h2,h3⟩:=ih (.level (k+1) d) r0 b r1 (fun t ht=>ho t (mem_cons_of_mem _ ht)) trivial hx;obtain ⟨o',h4,h5⟩:=hj;have h6:=(Sf.one t0 r0).trans h2;obtain ⟨k1,m,k2,k3⟩:=ih (.loop k d (one 6 t0.at_ t0.s [out,b])) r1 t r (h6.ok ho) ⟨.bin t0.s o' b',by simp only [E.ok,Re hc.2,h4,h0];rfl,by rw [dx,aL,aL,aL,h5,h1,E.tree]⟩ h;refine ⟨k1,_,h6.trans k2,?_⟩;simp only [uC,iJ,az] at *;omega
     ·cases h;exact ⟨hj,0,.nil _,by simp only [uC];omega⟩
   | operand d =>
    cases ts with
    | nil =>
     rw [rd] at h;split at h <;> cases h
    | cons t0 r0 =>
     rw [rd] at h;split at h
     ·cases h
     ·have WR:qF r0:=fun t ht=>ho t (mem_cons_of_mem _ ht)
      have uA:=Sf.one t0 r0;split at h
      ·split at h
       ·rename_i hu;split at h
        ·cases h
        ·rename_i a r1 hx;cases h;obtain ⟨⟨a',h0,h1⟩,n,h2,h3⟩:=ih (.operand (d+1)) r0 a r WR trivial hx;refine ⟨⟨.un t0.s a',?_,by rw [dx,aL,aL,h1,E.tree]⟩,_,uA.trans h2,?_⟩
         ·simp only [E.ok,h0]
          rcases hu with hu | hu | hu <;> simp [hu]
         ·simp only [uC,iJ,az] at *;omega
       ·split at h
        ·split at h
         ·cases h
         ·rename_i a r1 hx;split at h
          ·cases h
          ·rename_i r2 hm;cases h;obtain ⟨h1,n,h2,h3⟩:=ih (.expr (d+1)) r0 t r1 WR trivial hx;exact ⟨h1,_,(uA.trans h2).trans (Sf.aI (by decide) hm),by simp only [uC] at *;omega⟩
        ·cases h
      ·split at h
       ·rename_i hk;cases h;obtain ⟨k1,k2,k3⟩:=(ho t0 mem_cons_self).num hk;exact ⟨⟨.num t0.n,by simp only [E.ok];simp [k1,k2],by rw [er,aL,E.tree]⟩,1,uA,by simp only [uC,aO,az];omega⟩
       ·split at h
        ·cases h
        ·rename_i s r1 eD;obtain ⟨k1,k2⟩:=Sf.name eD ho;split at h
         ·rename_i hb;have k3:=k1.trans (Sf.sign (by decide) hb);split at h
          ·cases h
          ·rename_i a r2 hx;split at h
           ·cases h
           ·rename_i r3 hm;cases h;obtain ⟨⟨a',h0,h1⟩,n,h2,h3⟩:=ih (.expr (d+1)) _ a r2 (k3.ok ho) trivial hx;refine ⟨⟨.at_ s a',by simp only [E.ok,k2,h0];rfl,by rw [dx,aL,aL,h1,E.tree]⟩,_,(k3.trans h2).trans (Sf.aI (by decide) hm),?_⟩;simp only [uC,iJ,az] at *;omega
         ·split at h
          ·rename_i hb;have k3:=k1.trans (Sf.sign (by decide) hb);split at h
           ·cases h
           ·rename_i l r2 hx;cases h;obtain ⟨⟨es,h0,h1⟩,n,h2,h3⟩:=xg _ _ _ l r (k3.ok ho) ⟨[],rfl,rfl⟩ hx;refine ⟨⟨.call s es,by simp only [E.ok,k2,h0];rfl,by rw [dx,h1,E.tree]⟩,_,k3.trans h2,?_⟩;simp only [uC,iJ,az] at *;omega
          ·cases h;exact ⟨⟨.name s,by simp only [E.ok,k2],by rw [dx,aL,E.tree]⟩,1,k1,by simp only [uC,iJ,az];omega⟩
  ·rw [rd.args] at h;split at h
   ·rename_i hc;cases h;exact ⟨hj,1,Sf.sign (by decide) hc,by omega⟩
   ·split at h
    ·cases h
    ·rename_i xA hx
     have h0:Sf ts xA 0:=by
      split at hx
      ·cases hx;exact .nil _
      ·exact (Sf.aI (by decide) hx).le (Nat.zero_le _)
     split at h
     ·cases h
     ·rename_i a uY hy;obtain ⟨h1,n,h2,h3⟩:=ih (.expr d) xA a uY (h0.ok ho) trivial hy;have h4:=h0.trans h2;obtain ⟨k1,m,k2,k3⟩:=xg _ (acc++[a]) uY l r (h4.ok ho) (hj.snoc h1) h;refine ⟨k1,_,h4.trans k2,?_⟩;simp only [uC,l7,az] at *;omega
theorem wO {e:Int} {d:Nat} {ts r:List Tok} {t:T} (ho:qF ts) (h:expr e d ts=.ok (t,r)):EF t/\Sf ts r (aO t):=by
 obtain ⟨h1,n,h2,h3⟩:=(Sa e _).1 (.expr d) ts t r ho trivial h;exact ⟨h1,h2.le (by simpa [uC] using h3)⟩
theorem vr {e:Int} {d:Nat} {a b:ai} {ts r:List Tok} {t:T} (ha:a≠[]) (hb:b≠[]) (ho:qF ts) (h:inner e d a b ts=.ok (t,r)):EF t/\Sf ts r (aO t+2):=by
 unfold inner at h;split at h
 ·cases h
 ·rename_i xA h1;have k1:=Sf.aI ha h1;split at h
  ·cases h
  ·rename_i t' uY h2;obtain ⟨k2,k3⟩:=wO (k1.ok ho) h2;split at h
   ·cases h
   ·rename_i ts3 h3;cases h;exact ⟨k2,((k1.trans k3).trans (Sf.aI hb h3)).le (by omega)⟩
theorem AV {e:Int} {d:Nat} {ts r:List Tok} {s:ai} {t:T} (ho:qF ts) (h:kj e d ts=.ok ((s,t),r)):bh s=true/\EF t/\Sf ts r (aO t+3):=by
 unfold kj at h;split at h
 ·cases h
 ·rename_i s' xA h1;obtain ⟨k1,k2⟩:=Sf.name h1 ho;split at h
  ·cases h
  ·rename_i t' uY h2;cases h;obtain ⟨k3,k4⟩:=vr (by decide) (by decide) (k1.ok ho) h2;exact ⟨k2,k3,(k1.trans k4).le (by omega)⟩
def SF (t:T):Prop:=∃ a:S,a.ok=true/\er t=a.tree
def KB (l:List T):Prop:=∃ es:List S,S.cH es=true/\aL l=S.trees es
def BF (t:T):Prop:=∃ l:List S,S.cH l=true/\er t=bC l
theorem KB.snoc {l:List T} {t:T} (h:KB l) (k:SF t):KB (l++[t]):=by
 obtain ⟨es,h1,h2⟩:=h;obtain ⟨a,h3,h4⟩:=k
 have key:∀ es:List S,S.cH es=true->S.cH (es++[a])=true/\S.trees (es++[a])=S.trees es++[a.tree]:=by
  intro es
  induction es with
  | nil=>intro _;simp [S.cH,S.trees,h3]
  | cons b es ih =>
   intro h;simp only [S.cH,Bool.and_eq_true] at h;obtain ⟨k1,k2⟩:=ih h.2;simp only [cons_append,S.cH,S.trees,k1,k2,h.1];simp
 obtain ⟨k1,k2⟩:=key es h1;exact ⟨es++[a],k1,by rw [Hr,h2,k2,aL,aL,h4]⟩
theorem Ps {t:T} (h:EF t) (hk:t.n.kind=3):∃ (s:ai) (a:T),t.kids=[a]/\t.n.s=s/\bh s=true/\EF a:=by
 obtain ⟨a,h1,h2⟩:=h;have h3:=congrArg (fun x=>x.n.kind) h2;simp only [wM,hk] at h3
 cases a with
 | at_ s b =>
  simp only [E.ok,Bool.and_eq_true] at h1
  have h4:t.n.s=s:=by have:=congrArg (fun x=>x.n.s) h2;simp only [wM] at this;exact this
  have h5:aL t.kids=[b.tree]:=by rw [<-Rw,h2];rfl
  match hl:t.kids,h5 with
  | [x],h5 =>
   rw [aL,aL] at h5
   injection h5 with h6
   exact ⟨s,x,rfl,h4,h1.1,b,h1.2,h6⟩
  | [],h5=>rw [aL] at h5;cases h5
  | x::y::r,h5=>rw [aL,aL] at h5;injection h5 with h6 h7;cases h7
 | num n=>simp [E.tree,T.n] at h3
 | name n=>simp [E.tree,T.n] at h3
 | call s l=>simp [E.tree,T.n] at h3
 | un s a=>simp [E.tree,T.n] at h3
 | bin s a b=>simp [E.tree,T.n] at h3
theorem G0 {e:Int} {d:Nat} {ts r:List Tok} {t:T} (ho:qF ts) (h:simple e d ts=.ok (t,r)):SF t/\Sf ts r (aO t):=by
 unfold simple at h;split at h
 ·split at h <;> cases h
 ·rename_i t0 r0;split at h
  ·split at h
   ·cases h
   ·rename_i s a xA h1;cases h;obtain ⟨k1,⟨a',k2,k3⟩,k4⟩:=AV ho h1;exact ⟨⟨.set s a',by simp only [S.ok,k1,k2];rfl,by rw [dx,aL,aL,k3,S.tree]⟩,k4.le (by simp only [iJ,az];omega)⟩
  ·split at h
   ·cases h
   ·rename_i a xA h1;obtain ⟨k1,k2⟩:=wO ho h1;split at h
    ·rename_i hc;split at h
     ·cases h
     ·rename_i v uY h2;cases h;obtain ⟨⟨v',k3,k4⟩,k5⟩:=vr (by decide) (by decide) (k2.ok ho) h2;obtain ⟨s,x,k6,k7,k8,x',k9,Z2⟩:=Ps k1 hc.1;have hz:=dX a;rw [k6] at hz;simp only [az] at hz;rw [k6];refine ⟨⟨.put s x' v',by simp only [S.ok,k8,k9,k3];rfl,?_⟩,(k2.trans k5).le ?_⟩
      ·rw [dx,k7];simp only [take_succ_cons,take_zero,cons_append,nil_append,aL,Z2,k4,S.tree]
      ·simp only [take_succ_cons,take_zero,cons_append,nil_append,iJ,az];omega
    ·split at h
     ·cases h
     ·rename_i uY h2;cases h;obtain ⟨a',k3,k4⟩:=k1;exact ⟨⟨.do_ a',by simp only [S.ok,k3],by rw [dx,aL,aL,k4,S.tree]⟩,(k2.trans (Sf.aI (by decide) h2)).le (by simp only [iJ,az];omega)⟩
theorem Sd (e:Int):∀ f,(∀ d ts t r,qF ts->rs e f (.block d) ts=.ok (t,r)->BF t/\Sf ts r (aO t))/\(∀ d ts t r,qF ts->rs e f (.stmt d) ts=.ok (t,r)->SF t/\Sf ts r (aO t)) /\
  (∀ d acc ts l r,qF ts->KB acc->rs.body e f d acc ts=.ok (l,r)->KB l/\∃ n,Sf ts r n/\az l+1<=n+az acc):=by
 intro f
 induction f with
 | zero=>exact ⟨fun d ts t r _ h=>by simp [rs] at h,fun d ts t r _ h=>by simp [rs] at h,fun d acc ts l r _ _ h=>by simp [rs.body] at h⟩
 | succ f ih =>
  obtain ⟨W5,ZX,W6⟩:=ih;refine ⟨fun d ts t r ho h=>?_,fun d ts t r ho h=>?_,fun d acc ts l r ho hj h=>?_⟩
  ·rw [rs] at h;split at h
   ·cases h
   ·split at h
    ·cases h
    ·rename_i r1 h1;have k1:=Sf.aI (by decide) h1;split at h
     ·cases h
     ·rename_i l r2 h2;cases h;obtain ⟨⟨es,k2,k3⟩,n,k4,k5⟩:=W6 _ [] r1 l r (k1.ok ho) ⟨[],rfl,rfl⟩ h2;exact ⟨⟨es,k2,by rw [dx,k3,bC]⟩,(k1.trans k4).le (by simp only [iJ,az] at *;omega)⟩
  ·rw [rs] at h;split at h
   ·cases h
   ·simp only at h;split at h
    ·rename_i hs;have k0:=Sf.sign (by decide) hs;split at h
     ·cases h
     ·rename_i s a xA h1;cases h;obtain ⟨k1,⟨a',k2,k3⟩,k4⟩:=AV (k0.ok ho) h1;exact ⟨⟨.var s a',by simp only [S.ok,k1,k2];rfl,by rw [dx,aL,aL,k3,S.tree]⟩,(k0.trans k4).le (by simp only [iJ,az];omega)⟩
    ·split at h
     ·rename_i hs
      have k0:Sf ts ts.tail 1:=by
       rcases hs with hs | hs
       ·exact Sf.sign (by decide) hs
       ·exact Sf.sign (by decide) hs
      split at h
      ·cases h
      ·rename_i c r1 h1;obtain ⟨⟨c',k1,k2⟩,k3⟩:=vr (by decide) (by decide) (k0.ok ho) h1;have k4:=k0.trans k3;split at h
       ·cases h
       ·rename_i b r2 h2;obtain ⟨⟨lb,k5,k6⟩,k7⟩:=W5 _ _ b r2 (k4.ok ho) h2;have k8:=k4.trans k7;split at h
        ·split at h
         ·rename_i eP;have k9:=k8.trans (Sf.sign (by decide) eP);split at h
          ·cases h
          ·rename_i b2 r3 h3;cases h;obtain ⟨⟨Z9,j5,j6⟩,j7⟩:=W5 _ _ b2 r (k9.ok ho) h3;refine ⟨⟨.if2 c' lb Z9,by simp only [S.ok,k1,k5,j5];rfl,?_⟩,(k9.trans j7).le (by simp only [iJ,az];omega)⟩;rw [dx,aL,aL,aL,aL,k2,k6,j6,S.tree,bC,bC]
         ·cases h;refine ⟨⟨.if1 c' lb,by simp only [S.ok,k1,k5];rfl,?_⟩,k8.le (by simp only [iJ,az];omega)⟩;rw [dx,aL,aL,aL,k2,k6,S.tree,bC]
        ·cases h;refine ⟨⟨.while_ c' lb,by simp only [S.ok,k1,k5];rfl,?_⟩,k8.le (by simp only [iJ,az];omega)⟩;rw [dx,aL,aL,aL,k2,k6,S.tree,bC]
     ·split at h
      ·rename_i hs;have k0:=Sf.sign (by decide) hs;split at h
       ·cases h
       ·rename_i a xA h1;obtain ⟨⟨a',k1,k2⟩,k3⟩:=wO (k0.ok ho) h1;split at h
        ·cases h
        ·rename_i uY h2;cases h;exact ⟨⟨.ret a',by simp only [S.ok,k1],by rw [dx,aL,aL,k2,S.tree]⟩,((k0.trans k3).trans (Sf.aI (by decide) h2)).le (by simp only [iJ,az];omega)⟩
      ·exact G0 ho h
  ·rw [rs.body] at h;split at h
   ·rename_i hc;cases h;exact ⟨hj,1,Sf.sign (by decide) hc,by omega⟩
   ·split at h
    ·cases h
    ·rename_i a xA h1;obtain ⟨k1,k2⟩:=ZX _ ts a xA ho h1;obtain ⟨k3,m,k4,k5⟩:=W6 _ (acc++[a]) xA l r (k2.ok ho) (hj.snoc k1) h;refine ⟨k3,_,k2.trans k4,?_⟩;simp only [l7,az] at *;omega
theorem I3 {e:Int} {d:Nat} {ts r:List Tok} {t:T} (ho:qF ts) (h:block e d ts=.ok (t,r)):BF t/\Sf ts r (aO t):=(Sd e _).1 _ ts t r ho h
end Go.Im
namespace Go.Sp
open Go.Xp
def dR (x:ai) (l:List K):Prop:=∀ pre post:ai,∃ ts,ts.map kf=l/\Tz (pre++(x++post)) pre.length ts (pre.length+x.length)
def fY (x:ai) (l:List K):Prop:=∀ pre post:ai,Sep post->∃ ts,ts.map kf=l/\Tz (pre++(x++post)) pre.length ts (pre.length+x.length)
theorem dR.s {x:ai} {l:List K} (h:dR x l):fY x l:=fun pre post _=>h pre post
theorem dR.app {x y:ai} {l m:List K} (h:dR x l) (k:dR y m):dR (x++y) (l++m):=by
 intro pre post;obtain ⟨ts,h1,h2⟩:=h pre (y++post);obtain ⟨us,h3,h4⟩:=k (pre++x) post;refine ⟨ts++us,by simp [h1,h3],?_⟩;rw [append_assoc] at h4 |-;rw [length_append] at h4 |-;rw [<-Nat.add_assoc];exact h2.app h4
theorem dR.apps {x y:ai} {l m:List K} (h:dR x l) (k:fY y m):fY (x++y) (l++m):=by
 intro pre post hp;obtain ⟨ts,h1,h2⟩:=h pre (y++post);obtain ⟨us,h3,h4⟩:=k (pre++x) post hp;refine ⟨ts++us,by simp [h1,h3],?_⟩;rw [append_assoc] at h4 |-;rw [length_append] at h4 |-;rw [<-Nat.add_assoc];exact h2.app h4
theorem fY.DO {x y:ai} {l m:List K} (h:fY x l) (k:dR y m) (hs:∀ post,Sep (y++post)):dR (x++y) (l++m):=by
 intro pre post;obtain ⟨ts,h1,h2⟩:=h pre (y++post) (hs post);obtain ⟨us,h3,h4⟩:=k (pre++x) post;refine ⟨ts++us,by simp [h1,h3],?_⟩;rw [append_assoc] at h4 |-;rw [length_append] at h4 |-;rw [<-Nat.add_assoc];exact h2.app h4
theorem dR.nil:dR [] []:=fun pre post=>⟨[],rfl,.nil _⟩
theorem xu {c:UInt8} {x:ai} (h:c∈B0):∀ post,Sep (c::x++post):=fun post d hd=>by cases hd;exact h
theorem rY {pre x:ai}:(pre++x).drop pre.length=x:=drop_left
theorem Tz.one {s:ai} {a a':Nat} {c:UInt8} {t:Tok} (hc:s[a]?=some c) (hb:dv c=false) (hr:br s a [47,42]=false) (ht:iq s a c=(t,a')) (hk:t.kind=1\/t.kind=2\/t.kind=3) (hn:t.n<=2147483647) (ha:a < a'):Tz s a [t] a' :=
 .tok hc hb hr ht hk hn ha (.nil _)
theorem xm {c:UInt8} (h:dv c=true):dR [c] []:=by
 intro pre post;have hd:(pre++([c]++post)).drop pre.length=c::post:=rY;obtain ⟨h1,_,_⟩:=lZ hd;exact ⟨[],rfl,.blank h1 h (.nil _)⟩
theorem lD {c:UInt8} (hm:c∈[40,41,91,93,44,59,123,125]):dR [c] [kS [c]]:=by
 intro pre post;have hd:(pre++([c]++post)).drop pre.length=c::post:=rY;obtain ⟨h1,_,h4⟩:=lZ hd;obtain ⟨h2,h3,h5⟩:=OC (Nat.le_of_lt h4) hd hm;exact ⟨[_],rfl,Tz.one h1 h3 h5 h2 (by simp) (by simp) (by simp)⟩
theorem zC {w:ai} (hm:w∈bD):fY w [kS w]:=by
 intro pre post hp;have hd:(pre++(w++post)).drop pre.length=w++post:=rY
 have bL:w≠[]:=by rintro rfl;revert hm;decide
 obtain ⟨c,r,hw⟩:=List.exists_cons_of_ne_nil bL;have db:=hd;rw [hw,cons_append] at db;obtain ⟨h1,_,h4⟩:=lZ db;rw [<-cons_append,<-hw] at h1 h4;obtain ⟨h2,h3,h5⟩:=PB (Nat.le_of_lt h4) hd hw hm hp
 have:0 < w.length:=by rw [hw];simp
 exact ⟨[_],rfl,Tz.one h1 h3 h5 h2 (by simp) (by simp) (by omega)⟩
theorem G1 {c:UInt8} (h:small c=true):dv c=false/\c≠47:=by
 simp only [small,Bool.and_eq_true] at h;have h1:=of_decide_eq_true h.1;refine ⟨?_,fun h0=>?_⟩
 ·simp only [dv,Bool.or_eq_false_iff,beq_eq_false_iff_ne];omega
 ·subst h0;revert h1;decide
theorem CZ {s r:ai} {a:Nat} {c:UInt8} (h:s.drop a=c::r) (hc:c≠47):br s a [47,42]=false:=by
 obtain ⟨_,_,h4⟩:=lZ h;rw [tJ h (Nat.le_of_lt h4)];simp only [List.isPrefixOf]
 have:((47:UInt8)==c)=false:=by rw [beq_eq_false_iff_ne];exact fun h=>hc h.symm
 rw [this,Bool.false_and]
theorem E7 {w:ai} (hw:word w=true):fY w [if words.contains w then kS w else kN w]:=by
 intro pre post hp;have hd:(pre++(w++post)).drop pre.length=w++post:=rY;simp only [word,Bool.and_eq_true,all_eq_true] at hw
 match w,hw,hd with
 | [],hw,_=>simp at hw
 | c::r,hw,hd =>
  obtain ⟨aR,hs⟩:=hw;have db:=hd;rw [cons_append] at db;obtain ⟨h1,_,h4⟩:=lZ db;obtain ⟨h3,h5⟩:=G1 hs;have ht:=P3 (Nat.le_of_lt h4) hd rfl hs aR hp.dG;refine ⟨[_],?_,Tz.one h1 h3 (CZ db h5) ht ?_ (by simp) (by simp)⟩
  ·simp only [List.map_cons,List.map_nil,kf,kS,kN];split <;> rfl
  ·simp only;split <;> simp
theorem jr {w:ai} (hw:bh w=true):fY w [kN w]:=by
 simp only [bh,Bool.and_eq_true,Bool.not_eq_true'] at hw;have:=E7 hw.1.1;rw [if_neg (by rw [hw.2];decide)] at this;exact this
theorem MD {w:ai} (hw:w∈words):fY w [kS w]:=by
 have h1:∀ w∈words,word w=true:=by decide
 have:=E7 (h1 w hw);rw [if_pos (by simpa using hw)] at this;exact this
theorem Ia {n:Nat} (hn:n<=2147483647):fY (cm n) [kI n]:=by
 intro pre post hp;have hd:(pre++(cm n++post)).drop pre.length=cm n++post:=rY;obtain ⟨h1,h2,h3⟩:=Hk n;obtain ⟨c,r,hw⟩:=List.exists_cons_of_ne_nil h3;have db:=hd;rw [hw,cons_append] at db;obtain ⟨h4,_,h5⟩:=lZ db;rw [<-cons_append,<-hw] at h4 h5;have hc:dO c=true:=h1 c (by rw [hw];exact mem_cons_self)
 have CF:dv c=false/\c≠47:=by
  simp only [dO,Bool.and_eq_true] at hc;have h1:=of_decide_eq_true hc.1;refine ⟨?_,fun h0=>?_⟩
  ·simp only [dv,Bool.or_eq_false_iff,beq_eq_false_iff_ne];omega
  ·subst h0;revert h1;decide
 have ht:=R0 (Nat.le_of_lt h5) hd hw hn hp.dO
 have:0 < (cm n).length:=by rw [hw];simp
 refine ⟨[_],rfl,Tz.one h4 CF.1 ?_ ht (by simp) (by simpa using by omega) (by omega)⟩;have yB:=db;rw [<-cons_append,<-hw] at yB;rw [hw] at yB |-;exact CZ yB CF.2
theorem Uw {s:ai} (h:ej s=true):s∈bD:=by
 have hm:s∈levels.flatten:=by
  unfold ej at h;rw [any_eq_true] at h;obtain ⟨l,hl,hc⟩:=h;exact List.mem_flatten.2 ⟨l,hl,by simpa using hc⟩
 have key:∀ s∈levels.flatten,s∈bD:=by decide
 exact key s hm
theorem Ka:dR [32] []:=xm (by decide)
theorem fY.then {x:ai} {l:List K} (h:fY x l) {c:UInt8} (hm:c∈[40,41,91,93,44,59,123,125]):dR (x++[c]) (l++[kS [c]]) :=
 h.DO (lD hm) (xu (by revert hm;unfold B0;simp only [List.mem_cons,List.not_mem_nil,or_false];rintro (h | h | h | h | h | h | h | h) <;> simp [h]))
theorem fY.sp {x:ai} {l:List K} (h:fY x l):dR (x++[32]) l:=by
 have:=h.DO Ka (xu (by decide));rw [append_nil] at this;exact this
theorem fY.eq {x:ai} {l l':List K} (h:fY x l) (e:l=l'):fY x l':=e ▸ h
theorem dR.eq {x:ai} {l l':List K} (h:dR x l) (e:l=l'):dR x l':=e ▸ h
theorem BL {lv k:Nat} {x:ai} {l:List K} (h:fY x l):fY (pH lv k x) (brk lv k l):=by
 unfold pH brk;split
 ·have:=((lD (c:=40) (by decide)).apps h).then (c:=41) (by decide);exact this.s.eq (by simp)
 ·exact h
mutual
theorem ou:∀ a:E,a.ok=true->fY a.txt a.tk
 | .num n,h=>by
  simp only [E.ok,Bool.and_eq_true] at h;have h1:=of_decide_eq_true h.1;have h2:=of_decide_eq_true h.2;have:=Ia (n:=n.toNat) (by omega);rw [E.txt,E.tk];rw [Int.toNat_of_nonneg h1] at this;exact this
 | .name s,h=>by rw [E.txt,E.tk];exact jr h
 | .at_ s a,h=>by
  simp only [E.ok,Bool.and_eq_true] at h;rw [E.txt,E.tk];exact ((((jr h.1).then (c:=91) (by decide)).apps (ou a h.2)).then (c:=93) (by decide)).s.eq (by simp)
 | .call s l,h=>by
  simp only [E.ok,Bool.and_eq_true] at h;rw [E.txt,E.tk];exact ((((jr h.1).then (c:=40) (by decide)).apps (VW l h.2)).then (c:=41) (by decide)).s.eq (by simp)
 | .un s a,h=>by
  simp only [E.ok,Bool.and_eq_true,Bool.or_eq_true,beq_iff_eq] at h;rw [E.txt,E.tk]
  have hs:s∈bD:=by rcases h.1 with (h | h) | h <;> (rw [h];decide)
  exact ((zC hs).sp.apps (BL (ou a h.2))).eq (by simp)
 | .bin s a b,h=>by
  simp only [E.ok,Bool.and_eq_true] at h;rw [E.txt,E.tk];exact ((((BL (ou a h.1.2)).sp.apps (zC (Uw h.1.1))).sp).apps (BL (ou b h.2))).eq (by simp)
theorem VW:∀ l:List E,E.cH l=true->fY (bx (E.cB l)) (E.lV l)
 | [],_=>dR.nil.s
 | a::l,h=>by
  simp only [E.cH,Bool.and_eq_true] at h;rw [E.cB,E.lV,bx];exact QQ l h.2 _ _ (ou a h.1)
theorem QQ:∀ l:List E,E.cH l=true->∀ x m,fY x m->fY (x++(E.cB l).flatMap fun y=>44::32::y) (m++E.pz l)
 | [],_,x,m,hx=>by rw [E.cB,E.pz];simpa using hx
 | a::l,h,x,m,hx=>by
  simp only [E.cH,Bool.and_eq_true] at h;have h1:=((hx.then (c:=44) (by decide)).app Ka).apps (ou a h.1);have h2:=QQ l h.2 _ _ h1;rw [E.cB,E.pz,flatMap_cons]
  have e1:x++((44::32::a.txt)++(E.cB l).flatMap fun y=>44::32::y)=(x++[44]++[32]++a.txt)++(E.cB l).flatMap fun y=>44::32::y:=by simp
  rw [e1];exact h2.eq (by simp)
end
theorem fY.set {x:ai} {l:List K} (h:fY x l):dR (x++[32,61,32]) (l++[kS [61]]):=by
 have:=(h.sp.apps (zC (w:=[61]) (by decide))).sp;simpa using this
theorem tl {w:ai} (hw:w∈words):dR (w++[32]) [kS w]:=(MD hw).sp
mutual
theorem VX:∀ s:S,s.ok=true->dR (s.txt E.txt) s.tk
 | .set s a,h=>by
  simp only [S.ok,Bool.and_eq_true] at h;rw [S.txt,S.tk];exact (((jr h.1).set.apps (ou a h.2)).then (c:=59) (by decide)).eq (by simp)
 | .put s a b,h=>by
  simp only [S.ok,Bool.and_eq_true] at h;rw [S.txt,S.tk];have h1:=((((jr h.1).then (c:=91) (by decide)).apps (ou a h.2.1)).then (c:=93) (by decide)).s.set;have h2:=(h1.apps (ou b h.2.2)).then (c:=59) (by decide)
  have e:s++[91]++a.txt++[93,32,61,32]++b.txt++[59]=s++[91]++a.txt++[93]++[32,61,32]++b.txt++[59]:=by simp
  rw [e];exact h2.eq (by simp)
 | .if1 c b,h=>by
  simp only [S.ok,Bool.and_eq_true] at h;rw [S.txt,S.tk];have h1:=((((tl (w:=[105,102]) (by decide)).app (lD (c:=40) (by decide))).apps (ou c h.1)).then (c:=41) (by decide)).s.sp;have h2:=h1.app (lexB b h.2)
  have e:[105,102,32,40]++c.txt++[41,32]++(S.cB E.txt [123,32] b++[125])=[105,102]++[32]++[40]++c.txt++[41]++[32]++(S.cB E.txt [123,32] b++[125]):=by simp
  rw [e];exact h2.eq (by simp [dE])
 | .if2 c b b2,h=>by
  simp only [S.ok,Bool.and_eq_true] at h;rw [S.txt,S.tk];have h1:=((((tl (w:=[105,102]) (by decide)).app (lD (c:=40) (by decide))).apps (ou c h.1)).then (c:=41) (by decide)).s.sp;have h2:=h1.app (lexB b h.2.1);have h3:=((h2.s.sp.apps (MD (w:=[101,108,115,101]) (by decide))).sp).app (lexB b2 h.2.2)
  have e:[105,102,32,40]++c.txt++[41,32]++(S.cB E.txt [123,32] b++[125])++[32,101,108,115,101,32]++(S.cB E.txt [123,32] b2++[125])=[105,102]++[32]++[40]++c.txt++[41]++[32]++(S.cB E.txt [123,32] b++[125])++[32]++[101,108,115,101]++[32]++(S.cB E.txt [123,32] b2++[125]):=by simp
  rw [e];exact h3.eq (by simp [dE,dW])
 | .while_ c b,h=>by
  simp only [S.ok,Bool.and_eq_true] at h;rw [S.txt,S.tk];have h1:=((((tl (w:=[119,104,105,108,101]) (by decide)).app (lD (c:=40) (by decide))).apps (ou c h.1)).then (c:=41) (by decide)).s.sp;have h2:=h1.app (lexB b h.2)
  have e:[119,104,105,108,101,32,40]++c.txt++[41,32]++(S.cB E.txt [123,32] b++[125])=[119,104,105,108,101]++[32]++[40]++c.txt++[41]++[32]++(S.cB E.txt [123,32] b++[125]):=by simp
  rw [e];exact h2.eq (by simp [df])
 | .ret a,h=>by
  simp only [S.ok] at h;rw [S.txt,S.tk];have h1:=((tl (w:=[114,101,116,117,114,110]) (by decide)).apps (ou a h)).then (c:=59) (by decide);exact h1.eq (by simp [cY])
 | .do_ a,h=>by
  simp only [S.ok] at h;rw [S.txt,S.tk];exact (ou a h).then (c:=59) (by decide)
 | .var s a,h=>by
  simp only [S.ok,Bool.and_eq_true] at h;rw [S.txt,S.tk];have h1:=((((tl (w:=[118,97,114]) (by decide)).apps (jr h.1)).set).apps (ou a h.2)).then (c:=59) (by decide);exact h1.eq (by simp [fX])
theorem lexB:∀ l:List S,S.cH l=true->dR (S.cB E.txt [123,32] l++[125]) (kS [123]::(S.lV l++[kS [125]]))
 | l,h=>by
  have h0:dR [123,32] [kS [123]]:=by
   have:=(lD (c:=123) (by decide)).s.sp;simpa using this
  exact ((QR l h _ _ h0).s.then (c:=125) (by decide)).eq (by simp)
theorem QR:∀ l:List S,S.cH l=true->∀ acc m,dR acc m->dR (S.cB E.txt acc l) (m++S.lV l)
 | [],_,acc,m,h=>by rw [S.cB,S.lV,append_nil];exact h
 | a::l,ho,acc,m,h=>by
  simp only [S.cH,Bool.and_eq_true] at ho;rw [S.cB,S.lV];have h1:=(h.app (VX a ho.1)).s.sp;exact (QR l ho.2 _ _ h1).eq (by simp)
end
theorem dR.all {x:ai} {l:List K} (h:dR x l):∃ ts,ts.map kf=l/\Tz x 0 ts x.length:=by
 obtain ⟨ts,h1,h2⟩:=h [] [];exact ⟨ts,h1,by simpa using h2⟩
theorem H8 {l:List S} (h:S.cH l=true):dR (eM E.txt l) (I2 l):=lexB l h
end Go.Sp
namespace Go.Im
open Go.Xp Go.Sp
def LD (s:ai):List K:=[kS kK,kN s,kS [59]]
def G7 (a:Ar):List K:=[kS kK,kN a.name,kS [91],kI a.size,kS [93],kS [59]]
def tQ:List ai->List K
 | []=>[]
 | s::r=>kS [44]::kN s::tQ r
def Fp:List ai->List K
 | []=>[]
 | s::r=>kN s::tQ r
def Hw (x:Fn × List S):List K:=kS lU::kN x.1.name::kS [40]::(Fp x.1.params++kS [41]::I2 x.2)
def f2 (x:Fn × List S):ai:=((((([102,117,110,99,32]++x.1.name)++[40])++bx x.1.params)++[41,32])++eM E.txt x.2)++[10]
theorem H9:dR [59,10] [kS [59]]:=(lD (c:=59) (by decide)).app (xm (c:=10) (by decide))
theorem V0 {s:ai} (h:bh s=true):dR (g1 s) (LD s) :=
 ((tl (w:=kK) (by decide)).apps (jr h)).DO H9 (xu (c:=59) (x:=[10]) (by decide))
theorem VY {a:Ar} (h:nH a=true):dR (a1 a) (G7 a):=by
 unfold nH at h;simp only [Bool.and_eq_true,Bool.not_eq_true',decide_eq_false_iff_not] at h;obtain ⟨⟨h1,h2⟩,h3⟩:=h
 have hz:nr a.size=cm a.size.toNat:=by unfold nr;rw [if_neg h2]
 have hk:kI a.size=kI ((a.size.toNat:Nat):Int):=by rw [Int.toNat_of_nonneg (by omega)]
 have x1:=((tl (w:=kK) (by decide)).apps (jr h1)).then (c:=91) (by decide);have x2:=x1.apps (Ia (n:=a.size.toNat) (by omega));have x3:=x2.DO ((lD (c:=93) (by decide)).app H9) (xu (c:=93) (x:=[59,10]) (by decide));unfold a1 G7;rw [hz,hk];exact x3
theorem ME:∀ (ps:List ai),ca ps=true->∀ x m,fY x m->fY (x++ps.flatMap fun y=>44::32::y) (m++tQ ps)
 | [],_,x,m,h=>by rw [List.flatMap_nil,append_nil,tQ,append_nil];exact h
 | s::r,hp,x,m,h=>by
  unfold ca at hp;rw [all_cons,Bool.and_eq_true] at hp;have h1:=(h.then (c:=44) (by decide)).app Ka;have h2:=h1.apps (jr hp.1);have h3:=ME r hp.2 _ _ h2;rw [flatMap_cons,tQ];refine fY.eq (cast (congrArg (fun z=>fY z _) ?_) h3) ?_
  ·simp
  ·simp
theorem V1 {ps:List ai} (h:ca ps=true):fY (bx ps) (Fp ps):=by
 match ps,h with
 | [],_=>exact dR.nil.s
 | s::r,h =>
  unfold ca at h;rw [all_cons,Bool.and_eq_true] at h;exact ME r h.2 s [kN s] (jr h.1)
theorem VZ {x:Fn × List S} (h1:bh x.1.name=true) (h2:ca x.1.params=true) (h3:S.cH x.2=true):dR (f2 x) (Hw x):=by
 have x1:=((tl (w:=lU) (by decide)).apps (jr h1)).then (c:=40) (by decide);have x2:=(x1.apps (V1 h2)).DO ((lD (c:=41) (by decide)).app Ka) (xu (c:=41) (x:=[32]) (by decide));have x3:=(x2.app (H8 h3)).app (xm (c:=10) (by decide));refine dR.eq x3 ?_;simp [Hw]
theorem xY {α:Type} {f:α->ai} {k:α->List K}:∀ (l:List α),(∀ x∈l,dR (f x) (k x))->∀ acc m,dR acc m->dR (c7 f acc l) (m++l.flatMap k)
 | [],_,acc,m,h=>by rw [c7,List.flatMap_nil,append_nil];exact h
 | x::l,hl,acc,m,h=>by
  rw [c7,flatMap_cons,<-append_assoc];exact xY l (fun y hy=>hl y (mem_cons_of_mem _ hy)) _ _ (h.app (hl x mem_cons_self))
theorem KT {inl:List ai->Nat->ai}:∀ (fns:List Fn) (l:List T) (ls:List (List S)) (acc:ai),ls.length=l.length->(∀ (i:Nat) t b,l[i]?=some t->ls[i]?=some b->mh cI inl 0 t=eM E.txt b) ->
  c7 (f1 cI inl) acc (fns.zip l)=c7 f2 acc (fns.zip ls)
 | [],l,ls,acc,_,_=>by simp [c7]
 | f::r,[],[],acc,_,_=>by simp [c7]
 | f::r,t::l,b::ls,acc,hl,h=>by
  have h0:=h 0 t b rfl rfl;rw [zip_cons_cons,zip_cons_cons,c7,c7,KT r l ls _ (by simpa using hl) fun i t' b' h1 h2=>h (i+1) t' b' (by simpa using h1) (by simpa using h2)];simp only [f1,f2,h0]
 | f::r,[],b::ls,acc,hl,_=>by simp at hl
 | f::r,t::l,[],acc,hl,_=>by simp at hl
section
variable {p q:RS} {ts r rest:List Tok} {u:Tok} {s:ai}
theorem pC (h:On p (u::r)):tok p 0=u:=by rw [On.tok h];rfl
theorem zw (h:On p (u::r)) (hk:kf u=kS s):is p 0 s=true:=by
 obtain ⟨h1,h2⟩:=dM hk;unfold is;rw [pC h,h1,h2];simp
theorem Jw (h:On p (u::r)) {k:K} (hk:kf u=k) (hn:k.1=3->k.2.2≠s):is p 0 s=false:=by
 unfold is;rw [pC h];subst hk
 by_cases h3:u.kind=3
 ·have:=hn h3;simp only [kf] at this;simp [h3,this]
 ·simp [h3]
theorem sM (h:On p (u::r)) (hk:kf u=kS s):want p s=p.next:=by unfold want;rw [if_pos h.code,if_pos (zw h hk)]
theorem xp (h:On p (u::r)) (hk:kf u=kN s) (hl:bh s=true):bg p=p.next:=by
 obtain ⟨h1,h2⟩:=pg hk;have:=lE hl;unfold bg;rw [if_pos h.code,pC h,if_pos h1,if_neg (by rw [h2];omega)]
theorem nx (h:On p (u::r)):On p.next r:=h.next.1
theorem dZ (h:On p (u::r)):p.next.l=p.l/\p.next.e=p.e:=⟨h.next.2.1,h.next.2.2⟩
theorem Yg (h:On p (u::r)):p.i < p.l.length:=by
 have:=congrArg List.length h.rest;rw [length_drop,length_cons] at this;omega
theorem Uz (h:On p []):¬ p.i < p.l.length:=by
 have:=congrArg List.length h.rest;rw [length_drop,length_nil] at this;omega
theorem HS {G f:Nat} {st:PS} (h:p.code≠0) (hg:1<=G):mo G f p st=some (p,st):=by
 obtain ⟨G,rfl⟩:∃ g',G=g'+1:=⟨G - 1,by omega⟩;rw [mo,if_neg (fun hc=>h hc.1)]
theorem xX {f:Nat} {acc:List ai} (h:p.code≠0) (hg:1<=f):n7 f acc p=some (acc,p):=by
 obtain ⟨f,rfl⟩:∃ g',f=g'+1:=⟨f - 1,by omega⟩;rw [n7,if_neg (fun hc=>h hc.1),ft h]
end
theorem Yc {f:Nat} {p:RS} {st:PS} {ts rest:List Tok} {s:ai} (hp:On p (ts++rest)) (ht:ts.map kf=LD s) (hs:bh s=true) :
  ∃ q,iW f p st=some (q,{ st with globals:=st.globals++[s] })/\bB p q (.ok rest):=by
 obtain ⟨u,r,rfl,h1,ht⟩:=map_cons ht;obtain ⟨v,r,rfl,h2,ht⟩:=map_cons ht;obtain ⟨w,rfl,h3⟩:=gz ht;simp only [cons_append,nil_append] at hp;have p1:=nx hp;have p2:=nx p1;have p3:=nx p2;refine ⟨p.next.next.next,?_,p3,by rw [(dZ p2).1,(dZ p1).1,(dZ hp).1],by rw [(dZ p2).2,(dZ p1).2,(dZ hp).2]⟩;unfold iW;rw [if_pos (zw hp h1),xp p1 h2 hs,Jw p2 h3 (by decide),if_neg (by rintro ⟨_,h⟩;cases h),sM p2 h3,pC p1,(pg h2).2]
theorem Ya {f:Nat} {p:RS} {st:PS} {ts rest:List Tok} {a:Ar} (hp:On p (ts++rest)) (ht:ts.map kf=G7 a) (hs:bh a.name=true) :
  ∃ q,iW f p st=some (q,{ st with arrays:=st.arrays++[a] })/\bB p q (.ok rest):=by
 obtain ⟨u,r,rfl,h1,ht⟩:=map_cons ht;obtain ⟨v,r,rfl,h2,ht⟩:=map_cons ht;obtain ⟨w,r,rfl,h3,ht⟩:=map_cons ht;obtain ⟨x,r,rfl,h4,ht⟩:=map_cons ht;obtain ⟨y,r,rfl,h5,ht⟩:=map_cons ht;obtain ⟨z,rfl,h6⟩:=gz ht;simp only [cons_append,nil_append] at hp;have p1:=nx hp;have p2:=nx p1;have p3:=nx p2;have p4:=nx p3;have p5:=nx p4;have p6:=nx p5;refine ⟨p.next.next.next.next.next.next,?_,p6,by rw [(dZ p5).1,(dZ p4).1,(dZ p3).1,(dZ p2).1,(dZ p1).1,(dZ hp).1],by rw [(dZ p5).2,(dZ p4).2,(dZ p3).2,(dZ p2).2,(dZ p1).2,(dZ hp).2]⟩;unfold iW;rw [if_pos (zw hp h1),xp p1 h2 hs,if_pos ⟨p2.code,zw p2 h3⟩,pC p3,if_pos (O1 h4).1,sM p4 h5,sM p5 h6,pC p1,(pg h2).2,(O1 h4).2]
theorem QL {rest:List Tok} {u:Tok} (hu:kf u=kS [41]):∀ (ps:List ai) (f:Nat) (acc:List ai) (p:RS) (ts:List Tok),ps.length < f->acc≠[]->ca ps=true->On p (ts++u::rest)->ts.map kf=tQ ps ->
  ∃ q,n7 f acc p=some (acc++ps,q)/\bB p q (.ok rest)
 | [],f,acc,p,ts,hf,ha,_,hp,ht=>by
  obtain ⟨f,rfl⟩:∃ g',f=g'+1:=⟨f - 1,by omega⟩
  have:ts=[]:=by simpa [tQ] using ht
  subst this;rw [nil_append] at hp;refine ⟨p.next,?_,nx hp,dZ hp⟩;rw [n7,if_neg (by rw [zw hp hu];rintro ⟨_,h⟩;cases h),sM hp hu,append_nil]
 | s::ps,f,acc,p,ts,hf,ha,hn,hp,ht=>by
  obtain ⟨f,rfl⟩:∃ g',f=g'+1:=⟨f - 1,by omega⟩;rw [tQ] at ht;obtain ⟨v,r,rfl,h1,ht⟩:=map_cons ht;obtain ⟨w,r,rfl,h2,ht⟩:=map_cons ht;unfold ca at hn;rw [all_cons,Bool.and_eq_true] at hn;simp only [cons_append] at hp;have p1:=nx hp;have p2:=nx p1
  have Za:acc.length≠0:=fun h=>ha (eq_nil_of_length_eq_zero h)
  rw [length_cons] at hf
  obtain ⟨q,h3,h4⟩:=QL hu ps f (acc++[s]) p.next.next r (by omega) (by simp) hn.2 p2 ht
  refine ⟨q,?_,h4.1,by rw [h4.2.1,(dZ p1).1,(dZ hp).1],by rw [h4.2.2,(dZ p1).2,(dZ hp).2]⟩;rw [n7,if_pos ⟨hp.code,Jw hp h1 (by decide)⟩,if_neg Za,sM hp h1,pC p1,(pg h2).2,xp p1 h2 hn.1,h3];simp
theorem VO {rest:List Tok} {u:Tok} (hu:kf u=kS [41]) (ps:List ai) (f:Nat) (p:RS) (ts:List Tok) (hf:ps.length < f) (hn:ca ps=true) (hp:On p (ts++u::rest)) (ht:ts.map kf=Fp ps) :
  ∃ q,n7 f [] p=some (ps,q)/\bB p q (.ok rest):=by
 obtain ⟨f,rfl⟩:∃ g',f=g'+1:=⟨f - 1,by omega⟩
 match ps,hn,ht,hf with
 | [],_,ht,_ =>
  have:ts=[]:=by simpa [Fp] using ht
  subst this;rw [nil_append] at hp;refine ⟨p.next,?_,nx hp,dZ hp⟩;rw [n7,if_neg (by rw [zw hp hu];rintro ⟨_,h⟩;cases h),sM hp hu]
 | s::ps,hn,ht,hf =>
  rw [Fp] at ht;obtain ⟨w,r,rfl,h2,ht⟩:=map_cons ht;unfold ca at hn;rw [all_cons,Bool.and_eq_true] at hn;simp only [cons_append] at hp;have p2:=nx hp;rw [length_cons] at hf
  obtain ⟨q,h3,h4⟩:=QL hu ps f ([]++[s]) p.next r (by omega) (by simp) hn.2 p2 ht
  refine ⟨q,?_,h4.1,by rw [h4.2.1,(dZ hp).1],by rw [h4.2.2,(dZ hp).2]⟩;rw [n7,if_pos ⟨hp.code,Jw hp h2 (fun h=>by cases h)⟩,if_pos (by rfl),pC hp,(pg h2).2,xp hp h2 hn.1,h3];rfl
def fW (p:RS):Nat:=40 * p.l.length+100
theorem Fq:∀ ps:List ai,ps.length<=(tQ ps).length
 | []=>Nat.zero_le _
 | s::r=>by have:=Fq r;rw [tQ,length_cons,length_cons,length_cons];omega
theorem R6 (ps:List ai):ps.length<=(Fp ps).length:=by
 cases ps with
 | nil=>exact Nat.zero_le _
 | cons s r=>have:=Fq r;rw [Fp,length_cons,length_cons];omega
theorem On.len {p:RS} {ts:List Tok} (h:Go.Sp.On p ts):ts.length<=p.l.length:=by
 rw [<-h.rest,length_drop];omega
theorem Un {f:Nat} {q:RS} {ts:List Tok} (hq:Go.Sp.On q ts) (hs:rQ q.l) (hf:fW q<=f):∃ t q',iS f (.block 1) q=some (t,q')/\iy q q' t (block q.e 1 ts):=by
 obtain ⟨t,q',h1,h2⟩:=(ZY (lM ts)).block 1 ts q hq hs va;have:=On.len hq;exact ⟨t,q',h1 f (by unfold KI lM;unfold fW at hf;omega),h2⟩
theorem Yb {f:Nat} {p:RS} {st:PS} {ts rest:List Tok} {x:Fn × List S} (hp:On p (ts++rest)) (hs:rQ p.l) (hf:fW p<=f) (ht:ts.map kf=Hw x) (h1:bh x.1.name=true) (h2:ca x.1.params=true) (h3:S.cH x.2=true) :
  (eh x.2 1=true->∃ q t,iW f p st=some (q,{ st with trees:=st.trees++[t],fns:=st.fns++[(x.1.name,x.1.params)] })/\er t=bC x.2/\bB p q (.ok rest)) /\
  (eh x.2 1=false->∃ q dK,iW f p st=some (q,dK)/\q.code≠0):=by
 obtain ⟨u,r,rfl,k1,ht⟩:=map_cons ht;obtain ⟨v,r,rfl,k2,ht⟩:=map_cons ht;obtain ⟨w,r,rfl,k3,ht⟩:=map_cons ht;obtain ⟨A,r,rfl,k4,ht⟩:=cW ht;obtain ⟨y,r,rfl,k5,ht⟩:=map_cons ht;simp only [cons_append,append_assoc] at hp;have p1:=nx hp;have p2:=nx p1;have p3:=nx p2
 have hl:p.next.next.next.l=p.l:=by rw [(dZ p2).1,(dZ p1).1,(dZ hp).1]
 have hA:x.1.params.length<=A.length:=by have:=R6 x.1.params;rw [<-k4,length_map] at this;exact this
 have cE:=On.len p3;simp only [length_append] at cE;rw [hl] at cE
 have TJ:x.1.params.length < f:=by unfold fW at hf;omega
 obtain ⟨q,h4,h5⟩:=VO k5 x.1.params f p.next.next.next A TJ h2 p3 k4
 have pN:q.l=p.l:=h5.2.1.trans hl;obtain ⟨t,q',h6,h7⟩:=Un (f:=f) h5.1 (by rw [pN];exact hs) (by unfold fW at hf |-;rw [pN];exact hf);obtain ⟨r1,r2⟩:=DR (e:=q.e) (d:=1) (rest:=rest) h3 ht
 have hw:iW f p st=some (q',{ st with trees:=st.trees++[t],fns:=st.fns++[(x.1.name,x.1.params)] }):=by
  unfold iW;rw [if_neg (by rw [Jw hp k1 (by decide)];decide),if_pos (zw hp k1),xp p1 k2 h1,sM p2 k3,h4];simp only;rw [if_pos h5.1.code,h6,pC p1,(pg k2).2]
 refine ⟨fun tO=>?_,fun tO=>?_⟩
 ·obtain ⟨t',j1,j2⟩:=r1 tO;rw [j2] at h7;obtain ⟨rfl,j3⟩:=h7;exact ⟨q',t,hw,j1,j3.1,j3.2.1.trans pN,j3.2.2.trans (h5.2.2.trans (by rw [(dZ p2).2,(dZ p1).2,(dZ hp).2]))⟩
 ·obtain ⟨pos,j2⟩:=r2 tO;rw [j2] at h7;exact ⟨q',_,hw,bB.err h7⟩
theorem p9 {G f:Nat} {p q:RS} {st dK:PS} {u:Tok} {r:List Tok} (hp:On p (u::r)) (h:iW f p st=some (q,dK)):mo (G+1) f p st=mo G f q dK:=by
 rw [mo,if_pos ⟨hp.code,Yg hp⟩,h]
theorem QO {f:Nat} {rest:List Tok}:∀ (gs:List ai) (p:RS) (st:PS) (ts:List Tok),On p (ts++rest)->ts.map kf=gs.flatMap LD->ca gs=true ->
  ∃ q,bB p q (.ok rest)/\∀ G,mo (G+gs.length) f p st=mo G f q { st with globals:=st.globals++gs }
 | [],p,st,ts,hp,ht,_=>by
  have:ts=[]:=by simpa using ht
  subst this;exact ⟨p,On.self hp,fun G=>by simp⟩
 | s::gs,p,st,ts,hp,ht,hn=>by
  rw [flatMap_cons] at ht;obtain ⟨A,B,rfl,h1,h2⟩:=cW ht;unfold ca at hn;rw [all_cons,Bool.and_eq_true] at hn;rw [append_assoc] at hp;obtain ⟨q,h3,h4⟩:=Yc (f:=f) (st:=st) hp h1 hn.1;obtain ⟨q',h5,h6⟩:=QO gs q { st with globals:=st.globals++[s] } B h4.1 h2 hn.2;refine ⟨q',h4.tr h5,fun G=>?_⟩;obtain ⟨u,r,rfl,_,_⟩:=map_cons h1;rw [length_cons,<-Nat.add_assoc,p9 hp h3,h6];simp
theorem QM {f:Nat} {rest:List Tok}:∀ (as:List Ar) (p:RS) (st:PS) (ts:List Tok),On p (ts++rest)->ts.map kf=as.flatMap G7->as.all nH=true ->
  ∃ q,bB p q (.ok rest)/\∀ G,mo (G+as.length) f p st=mo G f q { st with arrays:=st.arrays++as }
 | [],p,st,ts,hp,ht,_=>by
  have:ts=[]:=by simpa using ht
  subst this;exact ⟨p,On.self hp,fun G=>by simp⟩
 | s::gs,p,st,ts,hp,ht,hn=>by
  rw [flatMap_cons] at ht;obtain ⟨A,B,rfl,h1,h2⟩:=cW ht;rw [all_cons,Bool.and_eq_true] at hn;rw [append_assoc] at hp
  have eD:bh s.name=true:=by have:=hn.1;unfold nH at this;simp only [Bool.and_eq_true] at this;exact this.1.1
  obtain ⟨q,h3,h4⟩:=Ya (f:=f) (st:=st) hp h1 eD;obtain ⟨q',h5,h6⟩:=QM gs q { st with arrays:=st.arrays++[s] } B h4.1 h2 hn.2;refine ⟨q',h4.tr h5,fun G=>?_⟩;obtain ⟨u,r,rfl,_,_⟩:=map_cons h1;rw [length_cons,<-Nat.add_assoc,p9 hp h3,h6];simp
def Vg (x:Fn × List S):Prop:=bh x.1.name=true/\ca x.1.params=true/\S.cH x.2=true
theorem QN {f:Nat}:∀ (xs:List (Fn × List S)) (p:RS) (st:PS) (ts:List Tok),On p ts->rQ p.l->fW p<=f->ts.map kf=xs.flatMap Hw->(∀ x∈xs,Vg x) ->
  ((xs.all fun x=>eh x.2 1)=true->∃ q l,(∀ G,xs.length < G->mo G f p st=some (q,{ st with trees:=st.trees++l,fns:=st.fns++xs.map fun x=>(x.1.name,x.1.params) }))/\q.code=0/\aL l=xs.map fun x=>bC x.2) /\
  ((xs.all fun x=>eh x.2 1)=false->∃ q dK,(∀ G,xs.length < G->mo G f p st=some (q,dK))/\q.code≠0)
 | [],p,st,ts,hp,_,_,ht,_=>by
  have:ts=[]:=by simpa using ht
  subst this;refine ⟨fun _=>⟨p,[],fun G hG=>?_,hp.code,by rw [aL];rfl⟩,fun h=>by cases h⟩;obtain ⟨G,rfl⟩:∃ g',G=g'+1:=⟨G - 1,by rw [length_nil] at hG;omega⟩;rw [mo,if_neg (fun hc=>Uz hp hc.2)];simp
 | x::xs,p,st,ts,hp,hs,hf,ht,hx=>by
  rw [flatMap_cons] at ht;obtain ⟨A,B,rfl,h1,h2⟩:=cW ht;obtain ⟨x1,x2,x3⟩:=hx x mem_cons_self;obtain ⟨k1,k2⟩:=Yb (st:=st) hp hs hf h1 x1 x2 x3
  have bL:∃ u r,A++B=u::r:=by obtain ⟨u,r,rfl,_,_⟩:=map_cons h1;exact ⟨u,_,rfl⟩
  obtain ⟨u,r,hu⟩:=bL;rw [hu] at hp
  cases hb:eh x.2 1 with
  | false =>
   obtain ⟨q,dK,k3,k4⟩:=k2 hb;refine ⟨fun h=>(by rw [all_cons,hb] at h;cases h),fun _=>⟨q,dK,fun G hG=>?_,k4⟩⟩;obtain ⟨G,rfl⟩:∃ g',G=g'+1:=⟨G - 1,by rw [length_cons] at hG;omega⟩;rw [p9 hp k3,HS k4 (by rw [length_cons] at hG;omega)]
  | true =>
   obtain ⟨q,t,k3,k4,k5⟩:=k1 hb;have pN:q.l=p.l:=k5.2.1;obtain ⟨j1,j2⟩:=QN (f:=f) xs q { st with trees:=st.trees++[t],fns:=st.fns++[(x.1.name,x.1.params)] } B k5.1 (by rw [pN];exact hs) (by unfold fW at hf |-;rw [pN];exact hf) h2 (fun y hy=>hx y (mem_cons_of_mem _ hy));rw [all_cons,hb,Bool.true_and];refine ⟨fun h=>?_,fun h=>?_⟩
   ·obtain ⟨q',l,j3,j4,j5⟩:=j1 h;refine ⟨q',t::l,fun G hG=>?_,j4,by rw [aL,k4,j5];rfl⟩;obtain ⟨G,rfl⟩:∃ g',G=g'+1:=⟨G - 1,by rw [length_cons] at hG;omega⟩;rw [p9 hp k3,j3 G (by rw [length_cons] at hG;omega)];simp
   ·obtain ⟨q',dK,j3,j4⟩:=j2 h;refine ⟨q',dK,fun G hG=>?_,j4⟩;obtain ⟨G,rfl⟩:∃ g',G=g'+1:=⟨G - 1,by rw [length_cons] at hG;omega⟩;rw [p9 hp k3,j3 G (by rw [length_cons] at hG;omega)]
theorem MV (G:List ai) (As:List Ar) (xs:List (Fn × List S)) (h1:ca G=true) (h2:As.all nH=true) (h3:∀ x∈xs,Vg x) :
  ∃ ts,Tz (c7 f2 (c7 a1 (c7 g1 [] G) As) xs) 0 ts (c7 f2 (c7 a1 (c7 g1 [] G) As) xs).length /\
  (rQ ts->∀ (e:Int) (g f:Nat),ts.length+1<=g->40 * ts.length+100<=f ->
   ((xs.all fun x=>eh x.2 1)=true->∃ q l,mo g f ⟨ts,0,e,0,0⟩ .empty=some (q,⟨l,G,As,xs.map fun x=>(x.1.name,x.1.params)⟩)/\q.code=0/\aL l=xs.map fun x=>bC x.2) /\
   ((xs.all fun x=>eh x.2 1)=false->∃ q dK,mo g f ⟨ts,0,e,0,0⟩ .empty=some (q,dK)/\q.code≠0)):=by
 have l1:=xY (f:=g1) (k:=LD) G (fun s hs=>V0 (List.all_eq_true.1 h1 s hs)) [] [] dR.nil;have l2:=xY (f:=a1) (k:=G7) As (fun s hs=>VY (List.all_eq_true.1 h2 s hs)) _ _ l1;have l3:=xY (f:=f2) (k:=Hw) xs (fun x hx=>by obtain ⟨a,b,c⟩:=h3 x hx;exact VZ a b c) _ _ l2;obtain ⟨ts,k1,k2⟩:=l3.all;refine ⟨ts,k2,fun hs e g f hg hf=>?_⟩;rw [nil_append] at k1;obtain ⟨A,C,rfl,k3,k4⟩:=cW k1;obtain ⟨A,B,rfl,k5,k6⟩:=cW k3;have CJ:On ⟨(A++B)++C,0,e,0,0⟩ (A++(B++C)):=⟨rfl,Nat.zero_le _,by simp,k2.kinds⟩;obtain ⟨q1,j1,j2⟩:=QO (f:=f) G _ .empty A CJ k5 h1;obtain ⟨q2,j3,j4⟩:=QM (f:=f) As q1 _ B j1.1 k6 h2;have pN:q2.l=(A++B)++C:=(j1.tr j3).2.1;obtain ⟨j5,j6⟩:=QN (f:=f) xs q2 { ({ PS.empty with globals:=PS.empty.globals++G }:PS) with arrays:=PS.empty.arrays++As } C j3.1 (by rw [pN];exact hs) (by unfold fW;rw [pN];exact hf) k4 h3
 have c1:G.length<=A.length:=by
  have:=congrArg List.length k5;rw [length_map] at this;rw [this];clear this k5 j1 j2 j3 j4 j5 j6 pN CJ hs k1 k2 k3 l1 l2 l3 hf hg h1
  induction G with
  | nil=>exact Nat.le_refl _
  | cons s G ih=>rw [flatMap_cons,length_append,length_cons];simp only [LD,length_cons,length_nil];omega
 have c2:As.length<=B.length:=by
  have:=congrArg List.length k6;rw [length_map] at this;rw [this];clear this k6 j1 j2 j3 j4 j5 j6 pN CJ hs k1 k2 k3 l1 l2 l3 hf hg h2
  induction As with
  | nil=>exact Nat.le_refl _
  | cons s G ih=>rw [flatMap_cons,length_append,length_cons];simp only [G7,length_cons,length_nil];omega
 have c3:xs.length<=C.length:=by
  have:=congrArg List.length k4;rw [length_map] at this;rw [this];clear this k4 j1 j2 j3 j4 j5 j6 pN CJ hs k1 k2 k3 l1 l2 l3 hf hg h3
  induction xs with
  | nil=>exact Nat.le_refl _
  | cons s G ih=>rw [flatMap_cons,length_append,length_cons];simp only [Hw,length_cons];omega
 rw [length_append,length_append] at hg;have mb:∃ g',xs.length < g'/\g=g'+As.length+G.length:=⟨g - As.length - G.length,by omega,by omega⟩;obtain ⟨g',kP,rfl⟩:=mb;rw [j2,j4];refine ⟨fun h=>?_,fun h=>?_⟩
 ·obtain ⟨q,l,j7,j8,j9⟩:=j5 h;exact ⟨q,l,j7 g' kP,j8,j9⟩
 ·obtain ⟨q,dK,j7,j8⟩:=j6 h;exact ⟨q,dK,j7 g' kP,j8⟩
end Go.Im
namespace Go.Im
open Go.Xp Go.Sp
structure A9 (st:PS):Prop where
 globals:ca st.globals=true
 arrays:st.arrays.all nH=true
 fns:∀ x∈st.fns,bh x.1=true/\ca x.2=true
 trees:∀ t∈st.trees,BF t
 len:st.fns.length=st.trees.length
theorem yN {a b:List ai} (h:ca a=true) (k:ca b=true):ca (a++b)=true:=by
 unfold ca at *;rw [List.all_append,h,k];rfl
theorem yO {s:ai} (h:bh s=true):ca [s]=true:=by
 unfold ca;rw [all_cons,h];rfl
theorem Sf.len {a b:List Tok} {n:Nat} (h:Sf a b n):b.length+n<=a.length:=by
 obtain ⟨p,rfl,h⟩:=h;rw [length_append];omega
theorem HQ:∀ (f:Nat) (acc:List ai) (p:RS) (ts:List Tok),On p ts->qF ts->ts.length+1 < f->ca acc=true ->
  ∃ l q,n7 f acc p=some (l,q)/\((∃ r n,bB p q (.ok r)/\ca l=true/\Sf ts r n)\/q.code≠0)
 | 0,acc,p,ts,_,_,hf,_=>by omega
 | f+1,acc,p,ts,hp,ho,hf,hn=>by
  rw [n7]
  by_cases hc:p.code=0/\is p 0 [41]=false
  ·rw [if_pos hc]
   have kH:(∃ r,bB p (if acc.length=0 then p else want p [44]) (.ok r)/\Sf ts r 0)\/(if acc.length=0 then p else want p [44]).code≠0:=by
    by_cases ha:acc.length=0
    ·rw [if_pos ha];exact .inl ⟨ts,On.self hp,.nil _⟩
    ·rw [if_neg ha]
     rcases lk hp (s:=[44]) (by decide) with ⟨r,h1,h2⟩ | ⟨x,h1,h2⟩
     ·exact .inl ⟨r,h2,(Sf.aI (by decide) h1).le (Nat.zero_le _)⟩
     ·exact .inr (bB.err h2)
   generalize (if acc.length=0 then p else want p [44])=p' at *
   rcases kH with ⟨r,h1,h2⟩ | h1
   ·rcases sA h1.1 with ⟨r2,h3,h4⟩ | ⟨x,h3,h4⟩
    ·obtain ⟨k1,k2⟩:=Sf.name h3 (h2.ok ho);have hlen:=(h2.trans k1).len;obtain ⟨l,q,k3,k4⟩:=HQ f (acc++[(tok p' 0).s]) (bg p') r2 h4.1 ((h2.trans k1).ok ho) (by omega) (yN hn (yO k2));refine ⟨l,q,k3,?_⟩
     rcases k4 with ⟨r3,n,k5,k6,k7⟩ | k5
     ·exact .inl ⟨r3,_,(h1.tr h4).tr k5,k6,(h2.trans k1).trans k7⟩
     ·exact .inr k5
    ·exact ⟨_,_,xX (bB.err h4) (by omega),.inr (bB.err h4)⟩
   ·rw [MK h1];exact ⟨_,_,xX h1 (by omega),.inr h1⟩
  ·rw [if_neg hc]
   rcases lk hp (s:=[41]) (by decide) with ⟨r,h1,h2⟩ | ⟨x,h1,h2⟩
   ·exact ⟨acc,_,rfl,.inl ⟨r,1,h2,hn,Sf.aI (by decide) h1⟩⟩
   ·exact ⟨acc,_,rfl,.inr (bB.err h2)⟩
theorem Up {f:Nat} {p:RS} {st:PS} {u:Tok} {r0:List Tok} (hp:On p (u::r0)) (ho:qF (u::r0)) (hs:rQ p.l) (hf:fW p<=f) (b6:A9 st) :
  ∃ q dK,iW f p st=some (q,dK)/\((∃ r n,bB p q (.ok r)/\A9 dK/\Sf (u::r0) r (n+1)/\az dK.trees<=n+1+az st.trees)\/q.code≠0):=by
 have p1:=nx hp;have fF:=Sf.one u r0;unfold iW
 by_cases h1:is p 0 kK=true
 ·rw [if_pos h1]
  rcases sA p1 with ⟨r1,a1,a2⟩ | ⟨x,a1,a2⟩
  ·obtain ⟨b1,b2⟩:=Sf.name a1 (fF.ok ho);have b3:=fF.trans b1;have a3:bB p (bg p.next) (.ok r1):=(On.next hp).tr a2
   by_cases h2:(bg p.next).code=0/\is (bg p.next) 0 [91]=true
   ·rw [if_pos h2]
    have h3:sign r1 0=[91]:=by
     have:=On.is a2.1 0 (s:=[91]) (by decide);rw [h2.2] at this;simpa using this.symm
    obtain ⟨v,h4,_⟩:=sF (by decide) h3;have b4:=b3.trans (Sf.sign (by decide) h3);have p2:=a2.1;rw [h4] at p2
    have a4:bB p (bg p.next).next (.ok r1.tail):=a3.tr (On.next p2)
    have p3:=nx p2
    by_cases h5:(tok (bg p.next).next 0).kind=1
    ·rw [if_pos h5]
     cases hr:r1.tail with
     | nil =>
      rw [hr] at p3;have:=On.tok p3 0;rw [this] at h5;cases h5
     | cons w r3 =>
      rw [hr] at p3 a4 b4;have p4:=nx p3;have b5:=b4.trans (Sf.one w r3);have a5:=a4.tr (On.next p3);rw [pC p3] at h5;have hw:=(b4.ok ho w mem_cons_self).num h5
      rcases lk p4 (s:=[93]) (by decide) with ⟨r4,c1,c2⟩ | ⟨x,c1,c2⟩
      ·rcases lk c2.1 (s:=[59]) (by decide) with ⟨r5,d1,d2⟩ | ⟨x,d1,d2⟩
       ·refine ⟨_,_,rfl,.inl ⟨r5,0,(a5.tr c2).tr d2,⟨b6.globals,?_,b6.fns,b6.trees,b6.len⟩,((b5.trans (Sf.aI (by decide) c1)).trans (Sf.aI (by decide) d1)).le (by omega),by simp only;omega⟩⟩;simp only;rw [List.all_append,b6.arrays,all_cons,List.all_nil,Bool.and_true,Bool.true_and];unfold nH;rw [pC p3,b2];simp only [Bool.and_eq_true,Bool.not_eq_true',decide_eq_false_iff_not];exact ⟨⟨trivial,by omega⟩,by omega⟩
       ·exact ⟨_,_,rfl,.inr (bB.err d2)⟩
      ·refine ⟨_,_,rfl,.inr ?_⟩;rw [ft (bB.err c2)];exact bB.err c2
    ·rw [if_neg h5];exact ⟨_,_,rfl,.inr (bB.err (On.jB p3))⟩
   ·rw [if_neg h2]
    rcases lk a2.1 (s:=[59]) (by decide) with ⟨r4,c1,c2⟩ | ⟨x,c1,c2⟩
    ·exact ⟨_,_,rfl,.inl ⟨r4,0,a3.tr c2,⟨yN b6.globals (yO b2),b6.arrays,b6.fns,b6.trees,b6.len⟩,(b3.trans (Sf.aI (by decide) c1)).le (by omega),by simp only;omega⟩⟩
    ·exact ⟨_,_,rfl,.inr (bB.err c2)⟩
  ·rw [if_neg (fun h=>bB.err a2 h.1),ft (bB.err a2)];exact ⟨_,_,rfl,.inr (bB.err a2)⟩
 ·rw [if_neg h1]
  by_cases h2:is p 0 lU=true
  ·rw [if_pos h2]
   rcases sA p1 with ⟨r1,a1,a2⟩ | ⟨x,a1,a2⟩
   ·obtain ⟨b1,b2⟩:=Sf.name a1 (fF.ok ho);have b3:=fF.trans b1;have a3:bB p (bg p.next) (.ok r1):=(On.next hp).tr a2
    rcases lk a2.1 (s:=[40]) (by decide) with ⟨r2,c1,c2⟩ | ⟨x,c1,c2⟩
    ·have b4:=b3.trans (Sf.aI (by decide) c1);have a4:=a3.tr c2;have hl:=On.len c2.1;have ja:(want (bg p.next) [40]).l=p.l:=a4.2.1;obtain ⟨l,q,k1,k2⟩:=HQ f [] _ r2 c2.1 (b4.ok ho) (by rw [ja] at hl;unfold fW at hf;omega) rfl;rw [k1];simp only
     rcases k2 with ⟨r3,n,k3,k4,k5⟩ | k3
     ·have a5:=a4.tr k3;have pN:q.l=p.l:=a5.2.1;rw [if_pos k3.1.code];obtain ⟨t,q',k6,k7⟩:=Un (f:=f) k3.1 (by rw [pN];exact hs) (by unfold fW at hf |-;rw [pN];exact hf);rw [k6];simp only;have b5:=b4.trans k5
      cases hb:block q.e 1 r3 with
      | error x=>rw [hb] at k7;exact ⟨_,_,rfl,.inr (bB.err k7)⟩
      | ok y =>
       obtain ⟨t',r4⟩:=y;rw [hb] at k7;obtain ⟨rfl,k7⟩:=k7;obtain ⟨k8,k9⟩:=I3 (b5.ok ho) hb;refine ⟨_,_,rfl,.inl ⟨r4,n+aO t+2,a5.tr k7,⟨b6.globals,b6.arrays,?_,?_,?_⟩,(b5.trans k9).le (by omega),?_⟩⟩
       ·intro x hx
        rcases List.mem_append.1 hx with hx | hx
        ·exact b6.fns x hx
        ·rw [mem_singleton] at hx;subst hx;exact ⟨b2,k4⟩
       ·intro x hx
        rcases List.mem_append.1 hx with hx | hx
        ·exact b6.trees x hx
        ·rw [mem_singleton] at hx;subst hx;exact k8
       ·simp only [length_append,length_cons,length_nil];have:=b6.len;omega
       ·simp only [l7,az];omega
     ·rw [if_neg k3];exact ⟨_,_,rfl,.inr k3⟩
    ·rw [xX (bB.err c2) (by unfold fW at hf;omega)];simp only;rw [if_neg (bB.err c2)];exact ⟨_,_,rfl,.inr (bB.err c2)⟩
   ·rw [ft (bB.err a2),xX (bB.err a2) (by unfold fW at hf;omega)];simp only;rw [if_neg (bB.err a2)];exact ⟨_,_,rfl,.inr (bB.err a2)⟩
  ·rw [if_neg h2];exact ⟨_,_,rfl,.inr (bB.err (On.jB hp))⟩
theorem HR {f:Nat}:∀ (G:Nat) (p:RS) (st:PS) (ts:List Tok),On p ts->qF ts->rQ p.l->fW p<=f->A9 st->ts.length < G ->
  ∃ q dK,mo G f p st=some (q,dK)/\(q.code=0->A9 dK/\az dK.trees<=ts.length+az st.trees)
 | 0,p,st,ts,_,_,_,_,_,hG=>by omega
 | G+1,p,st,ts,hp,ho,hs,hf,b6,hG=>by
  cases ts with
  | nil =>
   rw [mo,if_neg (fun hc=>Uz hp hc.2)];exact ⟨p,st,rfl,fun _=>⟨b6,by simp⟩⟩
  | cons u r0 =>
   obtain ⟨q,dK,h1,h2⟩:=Up hp ho hs hf b6;rw [p9 hp h1];rw [length_cons] at hG
   rcases h2 with ⟨r,n,h3,h4,h5,h6⟩ | h3
   ·have hl:=h5.len;rw [length_cons] at hl;have pN:q.l=p.l:=h3.2.1;obtain ⟨q',st2,k1,k2⟩:=HR G q dK r h3.1 (h5.ok ho) (by rw [pN];exact hs) (by unfold fW at hf |-;rw [pN];exact hf) h4 (by omega);exact ⟨q',st2,k1,fun hc=>by obtain ⟨k3,k4⟩:=k2 hc;exact ⟨k3,by rw [length_cons];omega⟩⟩
   ·exact ⟨q,dK,HS h3 (by omega),fun hc=>absurd hc h3⟩
def og (st:PS):List Fn:=st.fns.mapIdx fun i x=>⟨x.1,x.2,((az (st.trees.take i):Nat):Int)⟩
def same (p:Src) (st:PS):Bool:=eU (fun x y=>x==y) p.globals st.globals&&(eU yt p.arrays st.arrays&&(eU qy p.fns (og st)&&eU ki p.nodes (dV 0 st.trees)))
structure Reads (x:ai) (ts:List Tok) (c z:Int) (q:RS) (st:PS):Prop where
 lex:me x (x.length+1) 0 []=some (ts,c,z)
 len:ts.length<=x.length
 read:mo (ts.length+1) (40 * ts.length+100) ⟨ts,0,(x.length:Int),0,0⟩ .empty=some (q,st)
 ok:q.code=0->A9 st/\az st.trees<=ts.length
theorem reads (x:ai):∃ ts c z q st,Reads x ts c z q st:=by
 obtain ⟨ts,c,z,h1,h2,h3,h4⟩:=qR x (x.length+1) 0 [] (Nat.zero_le _) (by omega) (fun t h=>by simp at h) .nil (fun t h=>by simp at h) (Nat.le_refl _);have CJ:On ⟨ts,0,(x.length:Int),0,0⟩ ts:=⟨rfl,Nat.zero_le _,rfl,fun t ht=>(h2 t ht).kinds⟩;obtain ⟨q,st,h5,h6⟩:=HR (f:=40 * ts.length+100) (ts.length+1) _ .empty ts CJ h2 h3 (Nat.le_refl _) ⟨rfl,rfl,fun x h=>(by cases h),fun x h=>(by cases h),rfl⟩ (by omega);exact ⟨ts,c,z,q,st,h1,h4,h5,fun h=>by obtain ⟨a,b⟩:=h6 h;exact ⟨a,by simpa [PS.empty,az] using b⟩⟩
structure Forms (l:List T) (ls:List (List S)):Prop where
 len:ls.length=l.length
 at_:∀ (i:Nat) t b,l[i]?=some t->ls[i]?=some b->S.cH b=true/\er t=bC b
theorem D9:∀ (l:List T),(∀ t∈l,BF t)->∃ ls,Forms l ls
 | [],_=>⟨[],rfl,fun i t b h=>by simp at h⟩
 | t::l,h=>by
  obtain ⟨b,h1,h2⟩:=h t mem_cons_self
  obtain ⟨ls,h3⟩:=D9 l fun u hu=>h u (mem_cons_of_mem _ hu)
  refine ⟨b::ls,by simp [h3.len],fun i t' b' k1 k2=>?_⟩
  cases i with
  | zero=>cases k1;cases k2;exact ⟨h1,h2⟩
  | succ i=>exact h3.at_ i t' b' (by simpa using k1) (by simpa using k2)
theorem fj.mem {Q:Fn->T->Prop}:∀ {fns:List Fn} {a:Nat} {l:List T},fj Q fns a l->(∀ f∈fns,∃ t∈l,Q f t)/\(∀ t∈l,∃ f∈fns,Q f t)
 | [],_,[],_=>⟨fun f h=>(by cases h),fun f h=>(by cases h)⟩
 | f::r,a,t::l,h=>by
  rw [fj] at h;obtain ⟨k1,k2⟩:=fj.mem h.2.2;refine ⟨fun g hg=>?_,fun u hu=>?_⟩
  ·rcases List.mem_cons.1 hg with rfl | hg
   ·exact ⟨t,mem_cons_self,h.2.1⟩
   ·obtain ⟨u,a,b⟩:=k1 g hg;exact ⟨u,mem_cons_of_mem _ a,b⟩
  ·rcases List.mem_cons.1 hu with rfl | hu
   ·exact ⟨f,mem_cons_self,h.2.1⟩
   ·obtain ⟨g,a,b⟩:=k2 u hu;exact ⟨g,mem_cons_of_mem _ a,b⟩
 | [],_,t::l,h=>by cases h
 | f::r,_,[],h=>by cases h
theorem fy.Jd {p:Src} {l:List T} (h:fy p l):∃ ls,Forms l ls:=by
 refine D9 l fun t ht=>?_
 obtain ⟨f,_,h1⟩:=(fj.mem h.fns).2 t ht;exact toB h1.all h1.kind
theorem fy.at_ {p:Src} {l:List T} (h:fy p l):lz l:=by
 have:∀ l:List T,(∀ t∈l,cU t=true)->lz l:=by
  intro l
  induction l with
  | nil=>intro _;trivial
  | cons t l ih=>intro h;rw [lz];exact ⟨KH t (h t mem_cons_self),ih fun u hu=>h u (mem_cons_of_mem _ hu)⟩
 refine this l fun t ht=>?_
 obtain ⟨f,_,h1⟩:=(fj.mem h.fns).2 t ht;exact h1.all
theorem fy.DS {p:Src} {l:List T} (h:fy p l):ir p.nodes p.fns 0 []=some (l,p.nodes.length):=by
 rw [He p.fns 0 [] l h.st h.fns h.at_,h.len];simp
theorem fy.k {p:Src} {l:List T} (h:fy p l):l.all fG=true:=by
 rw [all_eq_true];intro t ht;obtain ⟨f,_,h1⟩:=(fj.mem h.fns).2 t ht;exact Qc t h1.all
theorem Lw {l:List T} {ls:List (List S)} (h:Forms l ls):aL l=ls.map bC:=by
 rw [rG];apply List.ext_getElem?;intro i;rw [getElem?_map,getElem?_map];have hl:=h.len
 cases h1:l[i]? with
 | none =>
  rw [List.getElem?_eq_none_iff] at h1;rw [List.getElem?_eq_none_iff.2 (by omega)];rfl
 | some t =>
  have hi:=(List.getElem?_eq_some_iff.1 h1).1
  have h2:ls[i]?=some (ls[i]'(by omega)):=by simp [hl,hi]
  rw [h2];exact congrArg some (h.at_ i t _ h1 h2).2
theorem zip_fst {α β:Type}:∀ (a:List α) (b:List β),a.length=b.length->(a.zip b).map Prod.fst=a
 | [],[],_=>rfl
 | x::a,y::b,h=>by rw [zip_cons_cons,List.map_cons,zip_fst a b (by simpa using h)]
 | [],y::b,h=>by simp at h
 | x::a,[],h=>by simp at h
theorem Ce {α β:Type}:∀ (a:List α) (b:List β),a.length=b.length->(a.zip b).map Prod.snd=b
 | [],[],_=>rfl
 | x::a,y::b,h=>by rw [zip_cons_cons,List.map_cons,Ce a b (by simpa using h)]
 | [],y::b,h=>by simp at h
 | x::a,[],h=>by simp at h
theorem xz (l:List T) (i:Nat):az (l.take i)=az ((aL l).take i):=by
 rw [rG,<-List.map_take,<-rG,uV]
theorem UT {p:Src} {l:List T} {l':List T} {ls:List (List S)} (h:fy p l) (he:aL l'=aL l):same p ⟨l',p.globals,p.arrays,p.fns.map fun x=>(x.name,x.params)⟩=true:=by
 unfold same;simp only [Bool.and_eq_true];refine ⟨pY (fun x=>by simp) _,pY (fun x=>by simp [yt]) _,?_,?_⟩
 ·have:og ⟨l',p.globals,p.arrays,p.fns.map fun x=>(x.name,x.params)⟩=p.fns:=by
   unfold og;apply List.ext_getElem?;intro i;simp only [List.getElem?_mapIdx,getElem?_map]
   cases hf:p.fns[i]? with
   | none=>rfl
   | some f =>
    have hlen:=fj.len h.fns;have hi:=(List.getElem?_eq_some_iff.1 hf).1
    have ht:l[i]?=some (l[i]'(by omega)):=by simp [<-hlen,hi]
    have hb:=(fj.at_ h.fns i f _ hf ht).1;rw [Nat.zero_add,xz,<-he,<-xz] at hb;simp only [Option.map_some];rw [<-hb]
  rw [this];refine pY (fun x=>?_) _;simp [qy,pY]
 ·rw [dj.all h.st h.len];exact Br _ _ 0 he.symm
theorem Us {p:Src} {l:List T} {ls:List (List S)} (h:fy p l) (hf:Forms l ls):mc cI fg p l=c7 f2 (c7 a1 (c7 g1 [] p.globals) p.arrays) (p.fns.zip ls):=by
 unfold mc
 refine KT _ _ _ _ hf.len fun i t b h1 h2=>?_
 obtain ⟨h3,h4⟩:=hf.at_ i t b h1 h2;rw [<-KO,h4];exact ue b h3 0
theorem Kb {p:Src} {l:List T} {ls:List (List S)} (h:fy p l) (hf:Forms l ls) {ts:List Tok} {c z:Int} {q:RS} {st:PS} (hr:Reads (mc cI fg p l) ts c z q st) :
  c=0/\((ls.all fun b=>eh b 1)=true->q.code=0/\az st.trees<=800/\same p st=true)/\((ls.all fun b=>eh b 1)=false->q.code≠0):=by
 have hx:=Us h hf;have hlen:=fj.len h.fns;have pb:=hf.len
 have oL:∀ x∈p.fns.zip ls,Vg x:=by
  intro x hx;obtain ⟨f,b⟩:=x;obtain ⟨i,hi⟩:=List.getElem?_of_mem hx;rw [List.getElem?_zip_eq_some] at hi;have rm:=(List.getElem?_eq_some_iff.1 hi.2).1
  have ht:l[i]?=some (l[i]'(by omega)):=by simp [<-pb,rm]
  have h1:=(fj.at_ h.fns i f _ hi.1 ht).2;exact ⟨h1.name,h1.params,(hf.at_ i _ b ht hi.2).1⟩
 obtain ⟨us,h1,h2⟩:=MV p.globals p.arrays (p.fns.zip ls) h.globals h.arrays oL;rw [<-hx] at h1;have h3:=RU h1 rfl ((mc cI fg p l).length+1) [] (by omega);rw [nil_append,hr.lex] at h3;simp only [Option.some.injEq,Prod.mk.injEq] at h3;obtain ⟨rfl,rfl,rfl⟩:=h3
 have X6:rQ ts:=by
  obtain ⟨il,c',z',k1,k2,k3,k4⟩:=qR (mc cI fg p l) ((mc cI fg p l).length+1) 0 [] (Nat.zero_le _) (by omega) (fun t h=>by simp at h) .nil (fun t h=>by simp at h) (Nat.le_refl _);rw [hr.lex] at k1;cases k1;exact k3
 obtain ⟨h4,h5⟩:=h2 X6 ((mc cI fg p l).length:Int) (ts.length+1) (40 * ts.length+100) (Nat.le_refl _) (Nat.le_refl _)
 have aR:((p.fns.zip ls).all fun x=>eh x.2 1)=ls.all fun b=>eh b 1:=by
  have:ls=(p.fns.zip ls).map Prod.snd:=(Ce _ _ (by omega)).symm
  conv=>rhs;rw [this]
  rw [List.all_map];rfl
 rw [aR] at h4 h5;refine ⟨rfl,fun tO=>?_,fun tO=>?_⟩
 ·obtain ⟨q',l',k1,k2,k3⟩:=h4 tO;rw [hr.read] at k1;simp only [Option.some.injEq,Prod.mk.injEq] at k1;obtain ⟨rfl,rfl⟩:=k1
  have e1:((p.fns.zip ls).map fun x=>bC x.2)=ls.map bC:=by
   have:ls=(p.fns.zip ls).map Prod.snd:=(Ce _ _ (by omega)).symm
   conv=>rhs;rw [this]
   rw [map_map];rfl
  have e2:((p.fns.zip ls).map fun x=>(x.1.name,x.1.params))=p.fns.map fun x=>(x.name,x.params):=by
   have:p.fns=(p.fns.zip ls).map Prod.fst:=(zip_fst _ _ (by omega)).symm
   conv=>rhs;rw [this]
   rw [map_map];rfl
  have he:aL l'=aL l:=by rw [k3,e1,Lw hf]
  refine ⟨k2,?_,?_⟩
  ·simp only;rw [<-uV,he,uV,h.len];exact h.few
  ·rw [e2];exact UT (ls:=ls) h he
 ·obtain ⟨q',dK,k1,k2⟩:=h5 tO;rw [hr.read] at k1;simp only [Option.some.injEq,Prod.mk.injEq] at k1;obtain ⟨rfl,rfl⟩:=k1;exact k2
theorem Hq {α:Type} {p:α->α->Bool} {a b:List α} (h:eU p a b=true) {x:α} (hx:x∈a):∃ y∈b,p x y=true:=by
 obtain ⟨i,hi⟩:=List.getElem?_of_mem hx;have hl:=xM h;have ar:=(List.getElem?_eq_some_iff.1 hi).1
 have hb:b[i]?=some (b[i]'(by omega)):=by simp [<-hl,ar]
 exact ⟨_,mem_of_getElem? hb,DZ hi hb h⟩
theorem J2 {p:Src} {l:List T} (hn:p.nodes.length<=800) (hb:ir p.nodes p.fns 0 []=some (l,p.nodes.length)) {st:PS} (ew:A9 st) (hs:same p st=true):fy p l:=by
 obtain ⟨l',h1,h2,h3,h4,h5⟩:=Bh _ _ _ _ _ hb;rw [nil_append] at h1;subst h1;unfold same at hs;simp only [Bool.and_eq_true] at hs;obtain ⟨s1,s2,s3,s4⟩:=hs
 have hz:az l=p.nodes.length:=by omega
 have TQ:=dj.all h2 hz;rw [TQ] at s4
 have hlen:l.length=st.trees.length:=by
  have a1:=fj.len h3;have a2:=xM s3;unfold og at a2;rw [List.length_mapIdx] at a2;have:=ew.len;omega
 have he:=Sj hlen s4
 have gH:∀ f∈p.fns,bh f.name=true/\ca f.params=true:=by
  intro f hf;obtain ⟨g,hg,hp⟩:=Hq s3 hf;unfold og at hg;obtain ⟨i,hi⟩:=List.getElem?_of_mem hg;rw [List.getElem?_mapIdx] at hi
  cases hx:st.fns[i]? with
  | none=>rw [hx] at hi;cases hi
  | some x =>
   rw [hx] at hi;cases hi;simp only [qy,Bool.and_eq_true,beq_iff_eq] at hp;obtain ⟨⟨k1,k2⟩,_⟩:=hp;obtain ⟨k3,k4⟩:=ew.fns x (mem_of_getElem? hx);rw [k1,xL k2];exact ⟨k3,k4⟩
 have WX:∀ t∈l,t.n.kind=14/\cU t=true:=by
  intro t ht
  have h6:er t∈aL l:=by rw [rG];exact List.mem_map_of_mem ht
  rw [he,rG] at h6;obtain ⟨u,hu,h7⟩:=List.mem_map.1 h6;obtain ⟨b,k1,k2⟩:=ew.trees u hu;rw [h7] at k2
  have wa:wD t:=by
   have:∀ l:List T,lz l->t∈l->wD t:=by
    intro l
    induction l with
    | nil=>intro _ h;cases h
    | cons v l ih =>
     intro h hm;rw [lz] at h
     rcases List.mem_cons.1 hm with rfl | hm
     ·exact h.1
     ·exact ih h.2 hm
   exact this l h5 ht
  refine ⟨?_,KJ t (by rw [k2];exact S.uf b k1) wa⟩;have:=congrArg (fun x=>x.n.kind) k2;simp only [wM] at this;exact this
 refine ⟨?_,?_,h2,fj.mono h3 fun f t hf ht _=>⟨(gH f hf).1,(gH f hf).2,(WX t ht).1,(WX t ht).2⟩,hz,hn⟩
 ·rw [xL s1];exact ew.globals
 ·rw [all_eq_true];intro a ha;obtain ⟨b,hb,hp⟩:=Hq s2 ha;have h6:=List.all_eq_true.1 ew.arrays b hb;simp only [yt,Bool.and_eq_true,beq_iff_eq] at hp;unfold nH at h6 |-;rw [hp.1,hp.2];exact h6
end Go.Im
namespace Go.Im
open Go.Xp Go.Sp
def bb {α:Type} (f:α->Nat):List α->Nat
 | []=>0
 | x::l=>f x+bb f l
theorem zJ {α:Type} (f:α->Nat) (a b:List α):bb f (a++b)=bb f a+bb f b:=by
 induction a with
 | nil=>simp [bb]
 | cons x a ih=>simp only [cons_append,bb,ih];omega
theorem Sr {α:Type} {f g:α->Nat} {l:List α} (h:∀ x∈l,f x<=g x):bb f l<=bb g l:=by
 induction l with
 | nil=>exact Nat.le_refl _
 | cons x l ih =>
  have h1:=h x mem_cons_self
  have h2:=ih fun y hy=>h y (mem_cons_of_mem _ hy)
  simp only [bb];omega
theorem mV {α:Type} {f:α->Nat} {l:List α} {x:α} (h:x∈l):f x<=bb f l:=by
 induction l with
 | nil=>cases h
 | cons y l ih =>
  rw [bb]
  rcases List.mem_cons.1 h with rfl | h
  ·omega
  ·have:=ih h;omega
theorem mU {α:Type} {f g:α->Nat} {k:Nat} {l:List α} (h:∀ x∈l,f x<=k * g x):bb f l<=k * bb g l:=by
 induction l with
 | nil=>exact Nat.zero_le _
 | cons x l ih =>
  have h1:=h x mem_cons_self
  have h2:=ih fun y hy=>h y (mem_cons_of_mem _ hy)
  simp only [bb,Nat.mul_add];omega
theorem sH {α:Type} (f:α->Nat) (l:List α) (h:∀ x∈l,1<=f x):l.length<=bb f l:=by
 induction l with
 | nil=>exact Nat.zero_le _
 | cons x l ih =>
  have h1:=h x mem_cons_self
  have h2:=ih fun y hy=>h y (mem_cons_of_mem _ hy)
  rw [bb,length_cons];omega
theorem FW {α β:Type} (f:α->Nat) (g:β->Nat):∀ (a:List α) (b:List β),bb (fun x:α × β=>f x.1+g x.2) (a.zip b)<=bb f a+bb g b
 | [],b=>by simp [bb]
 | x::a,[]=>by simp [bb]
 | x::a,y::b=>by
  have:=FW f g a b;simp only [zip_cons_cons,bb] at *;omega
theorem ve {α:Type} (f:α->ai):∀ (l:List α) (acc:ai),(c7 f acc l).length=acc.length+bb (fun x=>(f x).length) l
 | [],acc=>by simp [c7,bb]
 | x::l,acc=>by rw [c7,ve f l,length_append,bb];omega
def rC (n:Nd):Nat:=n.s.length+60
mutual
theorem Vf:∀ (t:T) (a:Nat),jg t=bb rC (ln a t)
 | .mk n l,a=>by rw [jg,ln,bb,yh l (a+1),rC]
theorem yh:∀ (l:List T) (a:Nat),fE l=bb rC (dV a l)
 | [],a=>rfl
 | t::r,a=>by rw [fE,dV,zJ,Vf t a,yh r (a+aO t)]
end
def wi (l:List T) (i:Nat):Nat:=match l[i]? with | some t=>jg t | none=>0
theorem Yn (l:List T):wi l 0+wi l 1+wi l 2<=fE l:=by
 match l with
 | []=>simp [wi]
 | [a]=>simp only [wi,fE];simp
 | [a,b]=>simp only [wi,fE];simp
 | a::b::c::r=>simp only [wi,fE];simp;omega
theorem HC {l:List T} {f:T->ai} (h:∀ t∈l,(f t).length<=jg t) (i:Nat):((l.map f).getD i []).length<=wi l i:=by
 rw [List.getD_eq_getElem?_getD,getElem?_map];unfold wi
 cases hi:l[i]? with
 | none=>simp
 | some t=>exact h t (mem_of_getElem? hi)
theorem Iz {l:List T} {t:T} (h:t∈l):aO t<=az l:=by
 induction l with
 | nil=>cases h
 | cons a l ih =>
  rw [az]
  rcases List.mem_cons.1 h with rfl | h
  ·omega
  ·have:=ih h;omega
theorem Ix {f:T->ai}:∀ {l:List T},(∀ t∈l,(f t).length+4<=jg t)->jJ (l.map f)<=fE l
 | [],_=>Nat.zero_le _
 | t::l,h=>by
  have h1:=h t mem_cons_self
  have h2:=Ix (l:=l) fun y hy=>h y (mem_cons_of_mem _ hy)
  rw [List.map_cons,jJ,fE];omega
theorem UZ:∀ (N:Nat) (t:T),aO t<=N->ow t->∀ d,(jx cI fg d t).length+4<=jg t/\(mh cI fg d t).length<=jg t:=by
 intro N
 induction N with
 | zero=>intro t h;have:=jN t;omega
 | succ N ih =>
  intro t hN hn d;have cK:=dX t;rw [qg] at hn
  have hk:∀ a∈t.kids,∀ d,(jx cI fg d a).length+4<=jg a/\(mh cI fg d a).length<=jg a:=fun a ha d=>ih a (by have:=Iz ha;omega) (jd hn.2 ha) d
  have hx:=HC (l:=t.kids) (f:=cI) (fun a ha=>by have:=uX (aO a) a (Nat.le_refl _) (jd hn.2 ha);omega);have hb:=HC (l:=t.kids) (f:=mh cI fg d) (fun a ha=>(hk a ha d).2);have h3:=Yn t.kids;have hw:=od t;have eS:=uX (aO t) t (Nat.le_refl _) ((qg t).2 hn);have x0:=hx 0;have x1:=hx 1;have b1:=hb 1;have b2:=hb 2;constructor
  ·rw [M9,Hc];unfold wy;split
   ·simp only [length_append,length_cons,length_nil];omega
   split
   ·simp only [length_append,length_cons,length_nil];omega
   split
   ·simp only [length_append,length_cons,length_nil];omega
   split
   ·split
    ·simp only [length_append,length_cons,length_nil];omega
    ·simp only [length_append,length_cons,length_nil];omega
   split
   ·simp only [length_append,length_cons,length_nil];omega
   split
   ·simp only [length_append,length_cons,length_nil];omega
   split
   ·simp only [length_append,length_cons,length_nil];omega
   ·omega
  ·rw [KN,Iv]
   have:=Ix (f:=jx cI fg (d+1)) (l:=t.kids) fun a ha=>(hk a ha (d+1)).1
   have e:∀ l:List ai,(fg l d).length=3+jJ l:=fun l=>by
    unfold fg;rw [length_append,rW];simp only [length_cons,length_nil];omega
   rw [e];omega
def wS (l:List ai):Nat:=bb (fun s=>s.length+1) l
def dN (p:Src):Nat:=wS p.globals+bb (fun a:Ar=>a.name.length+1) p.arrays+bb (fun f:Fn=>f.name.length+wS f.params+1) p.fns+bb (fun n:Nd=>n.s.length+n.kids.length+1) p.nodes
structure ra (p:Src):Prop where
 arrays:∀ a∈p.arrays,-9223372036854775808<=a.size/\a.size<=9223372036854775807
 nodes:∀ n∈p.nodes,-9223372036854775808<=n.n/\n.n<=9223372036854775807
mutual
theorem eg.num {nodes:List Nd} (h:∀ n∈nodes,-9223372036854775808<=n.n/\n.n<=9223372036854775807):∀ (t:T) (a:Nat),eg nodes a t->ow t
 | .mk n l,a,hs=>by
  rw [eg] at hs;rw [ow];exact ⟨h n (mem_of_getElem? hs.1),dj.num h l _ hs.2.2⟩
theorem dj.num {nodes:List Nd} (h:∀ n∈nodes,-9223372036854775808<=n.n/\n.n<=9223372036854775807):∀ (l:List T) (a:Nat),dj nodes a l->pn l
 | [],a,_=>trivial
 | t::r,a,hs=>by
  rw [dj] at hs;rw [pn];exact ⟨eg.num h t a hs.1,dj.num h r _ hs.2⟩
end
theorem PH (l:List ai):(l.map fun y=>y.length+2).sum=bb (fun s=>s.length+2) l:=by
 induction l with
 | nil=>rfl
 | cons s l ih=>rw [List.map_cons,sum_cons,ih,bb]
theorem F9 (l:List T):fE l=bb jg l:=by
 induction l with
 | nil=>rfl
 | cons t l ih=>rw [fE,bb,ih]
theorem RN {p:Src} {l:List T} (hn:ra p) (hs:dj p.nodes 0 l) (hz:az l=p.nodes.length):(mc cI fg p l).length<=100 * dN p:=by
 have gU:=dj.num hn.nodes l 0 hs
 have e1:bb (fun s=>(g1 s).length) p.globals<=100 * wS p.globals:=mU fun s _=>by simp only [g1,length_append,length_cons,length_nil];omega
 have e2:bb (fun a=>(a1 a).length) p.arrays<=100 * bb (fun a:Ar=>a.name.length+1) p.arrays:=mU fun a ha=>by
  have:=xh (hn.arrays a ha);simp only [a1,length_append,length_cons,length_nil];omega
 have e3:bb (fun x=>(f1 cI fg x).length) (p.fns.zip l)<=bb (fun x:Fn × T=>(fun f:Fn=>100 * (f.name.length+wS f.params+1)) x.1+jg x.2) (p.fns.zip l):=Sr fun x hx=>by
  have h1:=(UZ (aO x.2) x.2 (Nat.le_refl _) (jd gU (List.of_mem_zip hx).2) 0).2;have h2:=zx x.1.params;rw [PH] at h2
  have h3:bb (fun s=>s.length+2) x.1.params<=2 * wS x.1.params:=mU fun s _=>by omega
  simp only [f1,length_append,length_cons,length_nil];omega
 have e4:=FW (fun f:Fn=>100 * (f.name.length+wS f.params+1)) jg p.fns l
 have e5:bb (fun f:Fn=>100 * (f.name.length+wS f.params+1)) p.fns<=100 * bb (fun f:Fn=>f.name.length+wS f.params+1) p.fns:=mU fun f _=>Nat.le_refl _
 have e6:bb rC p.nodes<=100 * bb (fun n:Nd=>n.s.length+n.kids.length+1) p.nodes:=mU fun n _=>by unfold rC;omega
 have e7:bb jg l=bb rC p.nodes:=by rw [<-F9,yh l 0,<-dj.all hs hz]
 unfold mc dN;rw [ve,ve,ve];simp only [length_nil];have e8:=Nat.le_trans e3 e4;generalize bb (fun x=>(f1 cI fg x).length) (p.fns.zip l)=v3 at *;generalize bb (fun s=>(g1 s).length) p.globals=v1 at *;generalize bb (fun a=>(a1 a).length) p.arrays=v2 at *;omega
theorem F2 {p:Src} {l:List T} (hs:dj p.nodes 0 l) (hz:az l=p.nodes.length):∀ t∈l,jg t<=100 * dN p/\aO t<=dN p:=fun t ht=>by
 have e6:bb rC p.nodes<=100 * bb (fun n:Nd=>n.s.length+n.kids.length+1) p.nodes:=mU fun n _=>by unfold rC;omega
 have e7:bb jg l=bb rC p.nodes:=by rw [<-F9,yh l 0,<-dj.all hs hz]
 have e8:=mV (f:=jg) ht;have e9:=Iz ht
 have Wz:=sH (fun n:Nd=>n.s.length+n.kids.length+1) p.nodes fun n _=>by omega
 unfold dN;omega
theorem F3 (l:List ai):l.length<=wS l:=sH _ l fun s _=>by omega
theorem Nt {l:List ai} {s:ai} (h:s∈l):s.length+1<=wS l:=mV (f:=fun s:ai=>s.length+1) h
structure Small (p:Src) (n:Nat):Prop where
 globals:p.globals.length<=n/\∀ s∈p.globals,s.length<=n
 arrays:p.arrays.length<=n/\∀ a∈p.arrays,a.name.length<=n
 fns:p.fns.length<=n/\∀ f∈p.fns,f.name.length<=n/\f.params.length<=n/\∀ s∈f.params,s.length<=n
 nodes:p.nodes.length<=n/\∀ x∈p.nodes,x.s.length<=n/\x.kids.length<=n
theorem eJ (p:Src):Small p (dN p):=by
 have a1:=F3 p.globals
 have a2:=sH (fun a:Ar=>a.name.length+1) p.arrays fun a _=>by omega
 have a3:=sH (fun f:Fn=>f.name.length+wS f.params+1) p.fns fun a _=>by omega
 have a4:=sH (fun n:Nd=>n.s.length+n.kids.length+1) p.nodes fun a _=>by omega
 unfold dN;refine ⟨⟨by omega,fun s hs=>?_⟩,⟨by omega,fun a ha=>?_⟩,⟨by omega,fun f hf=>?_⟩,⟨by omega,fun n hn=>?_⟩⟩
 ·have:=Nt hs;omega
 ·have:=mV (f:=fun a:Ar=>a.name.length+1) ha;omega
 ·have:=mV (f:=fun f:Fn=>f.name.length+wS f.params+1) hf;refine ⟨by omega,by have:=F3 f.params;omega,fun s hs=>by have:=Nt hs;omega⟩
 ·have:=mV (f:=fun n:Nd=>n.s.length+n.kids.length+1) hn;exact ⟨by omega,by omega⟩
structure yZ (st:PS) (n:Nat):Prop where
 globals:st.globals.length<=n
 arrays:st.arrays.length<=n
 fns:st.fns.length<=n
 params:∀ x∈st.fns,x.2.length<=n
theorem Ml:∀ (f:Nat) (acc:List ai) (p:RS) (l:List ai) (q:RS),n7 f acc p=some (l,q)->l.length<=acc.length+f
 | 0,_,_,_,_,h=>by cases h
 | f+1,acc,p,l,q,h=>by
  rw [n7] at h;split at h
  ·have:=Ml f _ _ l q h;rw [length_append,length_cons,length_nil] at this;omega
  ·cases h;omega
theorem yZ.up {st:PS} {n:Nat} (h:yZ st n):yZ st (n+1):=by
 obtain ⟨a,b,c,d⟩:=h;exact ⟨by omega,by omega,by omega,fun x hx=>by have:=d x hx;omega⟩
theorem VQ {f n:Nat} {p q:RS} {st dK:PS} (hf:f<=n) (h:iW f p st=some (q,dK)) (hs:yZ st n):yZ dK (n+1):=by
 have key:=hs.up;obtain ⟨a,b,c,d⟩:=hs;unfold iW at h;split at h
 ·split at h
  ·split at h
   ·cases h;exact ⟨by simp;omega,by simp;omega,by simp;omega,fun x hx=>by have:=d x hx;omega⟩
   ·cases h;exact key
  ·cases h;exact ⟨by simp;omega,by simp;omega,by simp;omega,fun x hx=>by have:=d x hx;omega⟩
 ·split at h
  ·cases hm:n7 f [] (want (bg p.next) [40]) with
   | none=>rw [hm] at h;cases h
   | some r =>
    obtain ⟨l,q1⟩:=r;rw [hm] at h;simp only at h;have hl:=Ml _ _ _ _ _ hm;split at h
    ·split at h
     ·cases h
     ·cases h;refine ⟨by simp;omega,by simp;omega,by simp;omega,fun x hx=>?_⟩
      rcases List.mem_append.1 hx with hx | hx
      ·have:=d x hx;omega
      ·rw [mem_singleton] at hx;subst hx;simp at hl |-;omega
    ·cases h;exact key
  ·cases h;exact key
theorem Mn {f:Nat}:∀ (G n:Nat) (p q:RS) (st dK:PS),f<=n->mo G f p st=some (q,dK)->yZ st n->yZ dK (n+G)
 | 0,n,p,q,st,dK,_,h,_=>by cases h
 | G+1,n,p,q,st,dK,hf,h,hs=>by
  rw [mo] at h;split at h
  ·cases hw:iW f p st with
   | none=>rw [hw] at h;cases h
   | some r =>
    obtain ⟨q1,s1⟩:=r;rw [hw] at h;simp only at h;have:=Mn G (n+1) q1 q s1 dK (by omega) h (VQ hf hw hs);rw [show n+(G+1)=n+1+G by omega];exact this
  ·cases h;obtain ⟨a,b,c,d⟩:=hs;exact ⟨by omega,by omega,by omega,fun x hx=>by have:=d x hx;omega⟩
mutual
theorem Ow:∀ (t:T) (a:Nat),∀ n∈ln a t,n.kids.length<=aO t
 | .mk m l,a,n,h=>by
  rw [ln] at h;rw [aO]
  rcases List.mem_cons.1 h with rfl | h
  ·simp only [dQ];have:=cx l;omega
  ·have:=zg l (a+1) n h;omega
theorem zg:∀ (l:List T) (a:Nat),∀ n∈dV a l,n.kids.length<=az l
 | [],a,n,h=>by rw [dV] at h;cases h
 | t::r,a,n,h=>by
  rw [dV] at h;rw [az]
  rcases List.mem_append.1 h with h | h
  ·have:=Ow t a n h;omega
  ·have:=zg r _ n h;omega
end
end Go.Im
namespace Go.Sp
open Go.Xp
structure DG (p:Src) (ls:List (List S)):Prop where
 len:ls.length=p.fns.length
 at_:∀ (i:Nat) f l,p.fns[i]?=some f->ls[i]?=some l->0<=f.body/\S.cH l=true/\wt (bC l)<=1000000000/\∃ t,sub p.nodes (fN p.nodes) f.body.toNat=some t/\er t=bC l
theorem R5 (a:E) (ho:a.ok=true):(a.txt).length+4<=wt a.tree:=(E.len a ho).1
theorem Rf {l:List S} (ho:S.cH l=true) (hw:wt (bC l)<=1000000000) :
  ∃ ts t q f,Go.Sp.ia (eM E.txt l)=some ts/\(eM E.txt l).length<=1000000000/\ts.length<=1000000000/\1+f<=1099511627776/\mS f (.block 1) ⟨ts,0,(eM E.txt l).length,0,0⟩=some (t,q)/\q.l=ts/\((q.code=0/\q.i=ts.length/\eh l 1=true)\/(q.code≠0/\eh l 1=false)):=by
 have hlen:=rE E.txt R5 ho;generalize hx:eM E.txt l=x at *;obtain ⟨ts,h1,h2⟩:=(H8 ho).all;rw [hx] at h2;have h3:=h2.len;have CJ:On ⟨ts,0,x.length,0,0⟩ ts:=⟨rfl,Nat.zero_le _,rfl,h2.kinds⟩;have bL:rs (x.length:Int) (lM ts) (.block 1) ts≠.error aV:=va;obtain ⟨t,q,h4,h5⟩:=(js (lM ts)).block 1 ts _ CJ bL;have TZ:=DR (e:=(x.length:Int)) (d:=1) (rest:=[]) ho h1;rw [append_nil] at TZ
 change iy _ q t (block (x.length:Int) 1 ts) at h5
 refine ⟨ts,t,q,KF (lM ts),h2.all,by omega,by omega,by unfold KF lM;omega,h4 _ (Nat.le_refl _),?_⟩
 cases hf:eh l 1 with
 | true =>
  obtain ⟨t',_,h6⟩:=TZ.1 hf;rw [h6] at h5;obtain ⟨_,h7,h8,_⟩:=h5;have h8:q.l=ts:=h8;refine ⟨h8,.inl ⟨h7.code,?_,rfl⟩⟩;have hr:=congrArg List.length h7.rest;have hle:=h7.le;rw [length_drop] at hr;rw [h8] at hr hle;simp only [length_nil] at hr;omega
 | false =>
  obtain ⟨pos,h6⟩:=TZ.2 hf;rw [h6] at h5;exact ⟨h5.2.2.2.1,.inr ⟨bB.err h5,rfl⟩⟩
end Go.Sp
namespace Go.Im
open Go.Xp Go.Sp
def J1 (p:Src) (x:ai):Bool:=match me x (x.length+1) 0 [] with
 | none=>false
 | some (ts,c,z)=>if c≠0 then false else match mo (ts.length+1) (40 * ts.length+100) ⟨ts,0,(x.length:Int),0,0⟩ .empty with
  | none=>false
  | some (q,st)=>if q.code≠0 then false else if az st.trees > 800 then false else same p st
def fI (p:Src):Bool:=if p.nodes.length > 800 then false else match ir p.nodes p.fns 0 [] with
 | none=>false
 | some (l,e)=>if e≠p.nodes.length then false else if l.all fG=false then false else J1 p (mc cI fg p l)
theorem zF {p:Src} {x:ai} {ts:List Tok} {c z:Int} {q:RS} {st:PS} (h:Reads x ts c z q st):J1 p x=if c≠0 then false else if q.code≠0 then false else if az st.trees > 800 then false else same p st:=by
 unfold J1;rw [h.lex];simp only;rw [h.read]
theorem Xs {p:Src} {l:List T} {ls:List (List S)} (h:fy p l) (hf:Forms l ls):fI p=ls.all fun b=>eh b 1:=by
 unfold fI;have h8:=h.few;rw [if_neg (by omega),h.DS];simp only;rw [if_neg (by simp),if_neg (by rw [h.k];decide)];obtain ⟨ts,c,z,q,st,hr⟩:=reads (mc cI fg p l);obtain ⟨h1,h2,h3⟩:=Kb h hf hr;rw [zF hr,if_neg (by simpa using h1)]
 cases hb:ls.all fun b=>eh b 1 with
 | false=>rw [if_pos (h3 hb)]
 | true =>
  obtain ⟨k1,k2,k3⟩:=h2 hb;rw [if_neg (by simpa using k1),if_neg (by omega),k3]
theorem sX {p:Src} (h:fI p=true):∃ l,fy p l:=by
 unfold fI at h
 by_cases h8:p.nodes.length > 800
 ·rw [if_pos h8] at h;cases h
 rw [if_neg h8] at h
 cases hb:ir p.nodes p.fns 0 [] with
 | none=>rw [hb] at h;cases h
 | some y =>
  obtain ⟨l,e⟩:=y;rw [hb] at h;simp only at h
  by_cases he:e=p.nodes.length
  ·subst he;rw [if_neg (by simp)] at h
   by_cases hk:l.all fG=false
   ·rw [if_pos hk] at h;cases h
   rw [if_neg hk] at h;obtain ⟨ts,c,z,q,st,hr⟩:=reads (mc cI fg p l);rw [zF hr] at h;split at h
   ·cases h
   split at h
   ·cases h
   ·rename_i hc;split at h
    ·cases h
    ·exact ⟨l,J2 (by omega) hb (hr.ok (by simpa using hc)).1 h⟩
  ·rw [if_pos he] at h;cases h
theorem Xr {p:Src} (h:nw p=some false):fI p=false:=by
 cases hf:fI p with
 | false=>rfl
 | true =>
  obtain ⟨l,h1⟩:=sX hf;rw [h1.nw] at h;cases h
theorem dj.ix {nodes:List Nd}:∀ (l:List T) (a i:Nat) (t:T),dj nodes a l->l[i]?=some t->eg nodes (a+az (l.take i)) t
 | [],a,i,t,_,h=>by simp at h
 | u::r,a,0,t,h,hi=>by
  cases hi;rw [dj] at h;exact h.1
 | u::r,a,i+1,t,h,hi=>by
  rw [dj] at h;have:=dj.ix r (a+aO u) i t h.2 (by simpa using hi);rw [take_succ_cons,az,<-Nat.add_assoc];exact this
mutual
theorem NH:∀ t:T,wt t<=jg t
 | .mk n l=>by have:=Ga l;rw [wt,jg];omega
theorem Ga:∀ l:List T,ey l<=fE l
 | []=>Nat.le_refl _
 | t::r=>by have:=NH t;have:=Ga r;rw [ey,fE];omega
end
theorem KP {p:Src} {l:List T} {ls:List (List S)} (h:fy p l) (hf:Forms l ls) (hw:dN p<=1048576):DG p ls:=by
 have hl:=fj.len h.fns;refine ⟨by rw [hf.len];omega,fun i f b h1 h2=>?_⟩;have hi:=(List.getElem?_eq_some_iff.1 h2).1;have hlen:=hf.len
 have ht:l[i]?=some (l[i]'(by omega)):=by simp [<-hlen,hi]
 obtain ⟨h3,h4⟩:=hf.at_ i _ b ht h2;obtain ⟨h5,h6⟩:=fj.at_ h.fns i f _ h1 ht;have h7:=dj.ix l 0 i _ h.st ht;rw [Nat.zero_add] at h5 h7;have hm:=mem_of_getElem? ht;have h8:=F2 h.st h.len _ hm;have h9:=NH (l[i]'(by omega));have kF:=eg.le _ _ h7;refine ⟨by omega,h3,by rw [<-h4,Q7];omega,_,?_,h4⟩;rw [h5,Int.toNat_natCast];exact (uU _).1 _ _ h7 (by unfold fN;omega)
theorem mY {α:Type} (f:α->Nat) (l:List α) (k:Nat):bb f (l.take k)<=bb f l:=by
 have:bb f l=bb f (l.take k)+bb f (l.drop k):=by rw [<-zJ,take_append_drop]
 omega
structure aaf (p:Src) (i:Nat) (u:T) (a:E):Prop where
 ok:a.ok=true
 er:er u=a.tree
 sub:sub p.nodes (fN p.nodes) i=some u
 tr:∃ e,nF p.nodes (p.nodes.length - i+1) i=some (u,e)
 k:fG u=true
 num:ow u
 wt:jg u<=100 * dN p
 txt:cI u=a.txt
end Go.Im
namespace Go.Im
open Go.Xp Go.Sp
end Go.Im
namespace Go.Im
open Go.Xp Go.Sp
def rq (w left:Nat):Int:=if w<=left then ((left - w:Nat):Int) else -1
theorem fC {w left:Nat} (h:w<=left):rq w left=((left - w:Nat):Int):=by unfold rq;rw [if_pos h]
theorem dm {w left:Nat} (h:left < w):rq w left = -1:=by unfold rq;rw [if_neg (by omega)]
theorem mW {α:Type} (w:α->Nat) (l:List α):bb (fun x=>w x+1) l=l.length+bb w l:=by
 induction l with
 | nil=>rfl
 | cons x l ih=>rw [bb,ih,bb,length_cons];omega
theorem kl {α:Type} {w:α->Nat} {l:List α} {k:Nat} {x:α} (h:l[k]?=some x):bb w (l.take (k+1))=bb w (l.take k)+w x:=by
 have:l.take (k+1)=l.take k++[x]:=by rw [List.take_add_one,h];rfl
 rw [this,zJ,bb,bb];rfl
theorem kz {α β:Type} {f:α->β} {l:List α} {k:Nat} {x:α} {Z:β} (h:l[k]?=some x):((l.take k).map f++List.replicate (l.length - k) Z).set k (f x)=(l.take (k+1)).map f++List.replicate (l.length - (k+1)) Z:=by
 have hk:=(List.getElem?_eq_some_iff.1 h).1
 have ht:l.take (k+1)=l.take k++[x]:=by rw [List.take_add_one,h];rfl
 have hl:((l.take k).map f).length=k:=by rw [length_map,length_take];omega
 rw [show l.length - k=(l.length - (k+1))+1 by omega,List.replicate_succ,List.set_append_right _ _ (by omega),hl,Nat.sub_self,List.set_cons_zero,ht,List.map_append];simp
theorem ky {α β:Type} {f:α->β} {l:List α} {k:Nat} {Z:β} (h:k<=l.length):((l.take k).map f++List.replicate (l.length - k) Z).length=l.length:=by
 rw [length_append,length_map,length_take,List.length_replicate];omega
theorem kx {α β:Type} {f:α->β} {l:List α} {Z:β}:(l.take l.length).map f++List.replicate (l.length - l.length) Z=l.map f:=by
 rw [List.take_length,Nat.sub_self];simp
end Go.Im
namespace Go.Im
open Go.Xp Go.Sp
end Go.Im
namespace Go.Im
open Go.Xp Go.Sp
theorem Ck {p:Src} {l:List T} (h:fy p l):∀ a∈p.arrays,0<=a.size/\a.size<=2147483647:=fun a ha=>by
 have:=List.all_eq_true.1 h.arrays a ha;unfold nH at this;simp only [Bool.and_eq_true,Bool.not_eq_true',decide_eq_false_iff_not] at this;omega
end Go.Im
namespace Go.Im
open Go.Xp Go.Sp
end Go.Im
namespace Go.Im
open Go.Xp Go.Sp
end Go.Im
