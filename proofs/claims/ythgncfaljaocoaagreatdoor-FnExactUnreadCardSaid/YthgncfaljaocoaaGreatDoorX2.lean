/- Part 2 of proofs that are told in their last texts. -/
import Derived.Test.YthgncfaljaocoaaGreatDoorX1
open List (all_cons all_eq_true any_eq_true append_assoc append_nil cons_append drop_left eq_nil_of_length_eq_zero find?_eq_none flatMap_cons foldl_cons getElem?_map getElem?_take length_append length_cons length_drop length_map length_nil length_take map_map mem_cons_of_mem mem_cons_self mem_of_getElem? mem_singleton nil_append sum_cons tail_cons take_append_drop take_succ_cons take_zero zip_cons_cons)
set_option linter.unusedVariables false
set_option linter.unusedSimpArgs false
set_option maxRecDepth 100000
namespace Go.Xp
open Go.Sp (bg ei)
section
variable {e:Int} {d:Nat} {ts rest:List Tok} {Q:T->Prop} {b:Bool}
theorem S.head {s:S} (ho:s.ok=true) (ht:ts.map kf=s.tk):∃ t r,ts=t::r/\∀ rest,sign (t::rest) 0≠dW/\sign (t::rest) 0≠[125]:=by
 cases s with
 | set s a =>
  rw [S.tk] at ht;obtain ⟨t,r,rfl,h1,_⟩:=map_cons ht;obtain ⟨h1,_⟩:=oT h1;exact ⟨t,r,rfl,fun rest=>⟨gO h1 (by decide),gO h1 (by decide)⟩⟩
 | put s a b =>
  rw [S.tk] at ht;obtain ⟨t,r,rfl,h1,_⟩:=map_cons ht;obtain ⟨h1,_⟩:=oT h1;exact ⟨t,r,rfl,fun rest=>⟨gO h1 (by decide),gO h1 (by decide)⟩⟩
 | if1 c b =>
  rw [S.tk] at ht;obtain ⟨t,r,rfl,h1,_⟩:=map_cons ht;exact ⟨t,r,rfl,fun rest=>by rw [ry h1];decide⟩
 | if2 c b b2 =>
  rw [S.tk] at ht;obtain ⟨t,r,rfl,h1,_⟩:=map_cons ht;exact ⟨t,r,rfl,fun rest=>by rw [ry h1];decide⟩
 | while_ c b =>
  rw [S.tk] at ht;obtain ⟨t,r,rfl,h1,_⟩:=map_cons ht;exact ⟨t,r,rfl,fun rest=>by rw [ry h1];decide⟩
 | ret a =>
  rw [S.tk] at ht;obtain ⟨t,r,rfl,h1,_⟩:=map_cons ht;exact ⟨t,r,rfl,fun rest=>by rw [ry h1];decide⟩
 | var s a =>
  rw [S.tk] at ht;obtain ⟨t,r,rfl,h1,_⟩:=map_cons ht;exact ⟨t,r,rfl,fun rest=>by rw [ry h1];decide⟩
 | do_ a =>
  simp only [S.ok] at ho;obtain ⟨k0,r0,hh,hf⟩:=E.head a ho;rw [S.tk,hh] at ht;obtain ⟨t,r,rfl,h1,_⟩:=map_cons ht;refine ⟨t,r,rfl,fun rest=>?_⟩
  rcases yE (r:=rest) (by rw [h1];exact hf) with h | h | h | h | h <;> (rw [h];decide)
def qf (l:List S):Prop:=∀ (e:Int) (d:Nat) (acc:List T) (ts rest:List Tok) (u:Tok),S.cB l=true->ts.map kf=S.lQ l->u.kind=3->u.s=[125] ->
 (S.fits l d=true->∃ ys,aI ys=S.trees l/\Eb e d acc (ts++u::rest) (.ok (acc++ys,rest)))/\(S.fits l d=false->∃ pos,Eb e d acc (ts++u::rest) (.error (9,pos)))
theorem JB:qf []:=by
 intro e d acc ts rest u _ ht hu fg
 have:ts=[]:=by simpa [S.lQ] using ht
 subst this;refine ⟨fun _=>⟨[],rfl,1,fun f hf=>?_⟩,fun h=>by simp [S.fits] at h⟩;obtain ⟨f,rfl⟩:∃ g,f=g+1:=⟨f - 1,by omega⟩;rw [rs.body,if_pos (by exact sy hu fg),append_nil];rfl
theorem HM {a:S} {l:List S} (Ca:qg a) (Cl:qf l):qf (a::l):=by
 intro e d acc ts rest u ho ht hu fg;simp only [S.cB,Bool.and_eq_true] at ho;rw [S.lQ] at ht;obtain ⟨A,B,rfl,h3,h4⟩:=cZ ht;obtain ⟨t,r,rfl,hh⟩:=S.head ho.1 h3
 have bO:sign (B++u::rest) 0≠dW:=by
  cases l with
  | nil =>
   have:B=[]:=by simpa [S.lQ] using h4
   subst this;rw [nil_append,sy hu fg];decide
  | cons a' l' =>
   simp only [S.cB,Bool.and_eq_true] at ho;rw [S.lQ] at h4;obtain ⟨A',B',rfl,h5,h6⟩:=cZ h4;obtain ⟨t',r',rfl,Xt⟩:=S.head ho.2.1 h5;exact (Xt _).1
 have hx:=Ca e d (t::r) (B++u::rest) ho.1 h3 bO
 have he:t::r++B++u::rest=t::r++(B++u::rest):=by simp
 have hs:sign (t::r++(B++u::rest)) 0≠[125]:=(hh _).2;rw [he,S.fits]
 cases hfa:a.fit d with
 | false =>
  refine ⟨fun hb=>(by simp at hb),fun _=>?_⟩;obtain ⟨pos,f0,h0⟩:=hx.2 hfa;refine ⟨pos,f0+1,fun f hf=>?_⟩;obtain ⟨f,rfl⟩:∃ g,f=g+1:=⟨f - 1,by omega⟩;rw [rs.body,if_neg hs,h0 f (by omega)]
 | true =>
  obtain ⟨ta,k1,f0,h0⟩:=hx.1 hfa;have hl:=Cl e d (acc++[ta]) B rest u ho.2 h4 hu fg;refine ⟨fun hb=>?_,fun hb=>?_⟩
  ·obtain ⟨ys,k3,f1,k4⟩:=hl.1 (by simpa using hb);refine ⟨ta::ys,by rw [aI,k1,k3,S.trees],f0+f1+1,fun f hf=>?_⟩;obtain ⟨f,rfl⟩:∃ g,f=g+1:=⟨f - 1,by omega⟩;rw [rs.body,if_neg hs,h0 f (by omega)];simp only;rw [k4 f (by omega),append_assoc];rfl
  ·obtain ⟨pos,f1,k3⟩:=hl.2 (by simpa using hb);refine ⟨pos,f0+f1+1,fun f hf=>?_⟩;obtain ⟨f,rfl⟩:∃ g,f=g+1:=⟨f - 1,by omega⟩;rw [rs.body,if_neg hs,h0 f (by omega)];exact k3 f (by omega)
theorem qf.blk {l:List S} (C:qf l) {A:List Tok} {u w:Tok} (ho:S.cB l=true) (ht:A.map kf=S.lQ l) (hu:u.kind=3) (fg:u.s=[123]) (hw:w.kind=3) (BV:w.s=[125]) :
  Sx e (.block d) (u::(A++w::rest)) rest (fun t=>er t=.mk ⟨14,0,0,[],[]⟩ (S.trees l)) (decide (d<=60)&&S.fits l (d+1)):=by
 have hb:=C e (d+1) [] A rest w ho ht hw BV
 by_cases hd:d<=60
 ·have:(decide (d<=60)&&S.fits l (d+1))=S.fits l (d+1):=by simp [hd]
  rw [this];refine ⟨fun h=>?_,fun h=>?_⟩
  ·obtain ⟨ys,k1,f0,h0⟩:=hb.1 h;refine ⟨one 14 u.at_ [] ys,by show er _=_;rw [dB,k1],f0+1,fun f hf=>?_⟩;obtain ⟨f,rfl⟩:∃ g,f=g+1:=⟨f - 1,by omega⟩;rw [rs,if_neg (by omega),pS hu fg];simp only;rw [h0 f (by omega)];rfl
  ·obtain ⟨pos,f0,h0⟩:=hb.2 h;refine ⟨pos,f0+1,fun f hf=>?_⟩;obtain ⟨f,rfl⟩:∃ g,f=g+1:=⟨f - 1,by omega⟩;rw [rs,if_neg (by omega),pS hu fg];simp only;rw [h0 f (by omega)]
 ·have:(decide (d<=60)&&S.fits l (d+1))=false:=by simp [hd]
  rw [this];exact ⟨fun hb=>(by cases hb),fun _=>⟨_,qU fun f=>by rw [rs,if_pos (by omega)]⟩⟩
theorem wc {j:pG} {x:Rd T} {gV:List Tok} {j':pG} {x':Rd T} (h:Es e j ts x) (hs:∀ f,rs e f j ts=x->rs e (f+1) j' gV=x'):Es e j' gV x':=by
 obtain ⟨f0,h0⟩:=h;refine ⟨f0+1,fun f hf=>?_⟩;obtain ⟨f,rfl⟩:∃ g,f=g+1:=⟨f - 1,by omega⟩;exact hs f (h0 f (by omega))
theorem F8 {j j2:pG} {x x2:Rd T} {gV uY:List Tok} {j':pG} {x':Rd T} (h:Es e j ts x) (h2:Es e j2 uY x2) (hs:∀ f,rs e f j ts=x->rs e f j2 uY=x2->rs e (f+1) j' gV=x'):Es e j' gV x':=by
 obtain ⟨f0,h0⟩:=h;obtain ⟨f1,h1⟩:=h2;refine ⟨f0+f1+1,fun f hf=>?_⟩;obtain ⟨f,rfl⟩:∃ g,f=g+1:=⟨f - 1,by omega⟩;exact hs f (h0 f (by omega)) (h1 f (by omega))
theorem Mw (c:E) {l:List S} (C:qf l):qg (.if1 c l):=by
 intro e d ts rest ho ht dP;simp only [S.ok,Bool.and_eq_true] at ho;rw [S.tk] at ht;obtain ⟨v,r,rfl,h1,h2⟩:=map_cons ht;obtain ⟨u,r,rfl,h3,h4⟩:=map_cons h2;obtain ⟨A,r,rfl,h5,h6⟩:=cZ h4;obtain ⟨w,r,rfl,h7,h8⟩:=map_cons h6;obtain ⟨x,r,rfl,h9,ky⟩:=map_cons h8;obtain ⟨B,r,rfl,nL,nm⟩:=cZ ky;obtain ⟨y,rfl,eu⟩:=gq nm;obtain ⟨h1,ct⟩:=dN h1;obtain ⟨h3,jx⟩:=dN h3;obtain ⟨h7,jO⟩:=dN h7;obtain ⟨h9,BK⟩:=dN h9;obtain ⟨eu,yH⟩:=dN eu
 have he:v::u::(A++w::x::(B++[y]))++rest=v::u::(A++w::(x::(B++y::rest))):=by simp
 have hi:=uz (e:=e) (d:=d+1) (rest:=x::(B++y::rest)) ho.1 h5 h3 jx h7 jO (by simp);have hb:=C.blk (e:=e) (d:=d+1) (rest:=rest) ho.2 nL h9 BK eu yH;have hv:=sy (rest:=u::(A++w::(x::(B++y::rest)))) h1 ct;rw [he,S.fit]
 refine oC fun hd=>?_
 cases hfa:oK c (d+1) with
 | false =>
  refine ⟨fun hb=>(by simp at hb),fun _=>?_⟩;obtain ⟨pos,k1⟩:=hi.2 hfa;refine ⟨pos,qU fun f=>?_⟩;rw [rs,if_neg (by omega)];simp only;rw [if_neg (by rw [hv];decide),if_pos (.inl hv),tail_cons,k1]
 | true =>
  obtain ⟨tc,k1,k2⟩:=hi.1 hfa;rw [Bool.true_and];refine ⟨fun h=>?_,fun h=>?_⟩
  ·obtain ⟨tb,k3,k4⟩:=hb.1 h;refine ⟨one 9 v.at_ [] [tc,tb],by show er _=_;rw [dB,aI,aI,k1,k3,S.tree];rfl,wc k4 fun f k4=>?_⟩;rw [rs,if_neg (by omega)];simp only;rw [if_neg (by rw [hv];decide),if_pos (.inl hv),tail_cons,k2];simp only;rw [k4];simp only;rw [if_pos hv,if_neg dP];rfl
  ·obtain ⟨pos,k3⟩:=hb.2 h;refine ⟨pos,wc k3 fun f k3=>?_⟩;rw [rs,if_neg (by omega)];simp only;rw [if_neg (by rw [hv];decide),if_pos (.inl hv),tail_cons,k2];simp only;rw [k3]
theorem HO (c:E) {l:List S} (C:qf l):qg (.while_ c l):=by
 intro e d ts rest ho ht dP;simp only [S.ok,Bool.and_eq_true] at ho;rw [S.tk] at ht;obtain ⟨v,r,rfl,h1,h2⟩:=map_cons ht;obtain ⟨u,r,rfl,h3,h4⟩:=map_cons h2;obtain ⟨A,r,rfl,h5,h6⟩:=cZ h4;obtain ⟨w,r,rfl,h7,h8⟩:=map_cons h6;obtain ⟨x,r,rfl,h9,ky⟩:=map_cons h8;obtain ⟨B,r,rfl,nL,nm⟩:=cZ ky;obtain ⟨y,rfl,eu⟩:=gq nm;obtain ⟨h1,ct⟩:=dN h1;obtain ⟨h3,jx⟩:=dN h3;obtain ⟨h7,jO⟩:=dN h7;obtain ⟨h9,BK⟩:=dN h9;obtain ⟨eu,yH⟩:=dN eu
 have he:v::u::(A++w::x::(B++[y]))++rest=v::u::(A++w::(x::(B++y::rest))):=by simp
 have hi:=uz (e:=e) (d:=d+1) (rest:=x::(B++y::rest)) ho.1 h5 h3 jx h7 jO (by simp);have hb:=C.blk (e:=e) (d:=d+1) (rest:=rest) ho.2 nL h9 BK eu yH;have hv:=sy (rest:=u::(A++w::(x::(B++y::rest)))) h1 ct;rw [he,S.fit]
 refine oC fun hd=>?_
 cases hfa:oK c (d+1) with
 | false =>
  refine ⟨fun hb=>(by simp at hb),fun _=>?_⟩;obtain ⟨pos,k1⟩:=hi.2 hfa;refine ⟨pos,qU fun f=>?_⟩;rw [rs,if_neg (by omega)];simp only;rw [if_neg (by rw [hv];decide),if_pos (.inr hv),tail_cons,k1]
 | true =>
  obtain ⟨tc,k1,k2⟩:=hi.1 hfa;rw [Bool.true_and];refine ⟨fun h=>?_,fun h=>?_⟩
  ·obtain ⟨tb,k3,k4⟩:=hb.1 h;refine ⟨one 10 v.at_ [] [tc,tb],by show er _=_;rw [dB,aI,aI,k1,k3,S.tree];rfl,wc k4 fun f k4=>?_⟩;rw [rs,if_neg (by omega)];simp only;rw [if_neg (by rw [hv];decide),if_pos (.inr hv),tail_cons,k2];simp only;rw [k4];simp only;rw [if_neg (by rw [hv];decide)];rfl
  ·obtain ⟨pos,k3⟩:=hb.2 h;refine ⟨pos,wc k3 fun f k3=>?_⟩;rw [rs,if_neg (by omega)];simp only;rw [if_neg (by rw [hv];decide),if_pos (.inr hv),tail_cons,k2];simp only;rw [k3]
theorem Mx (c:E) {l l2:List S} (C:qf l) (C2:qf l2):qg (.if2 c l l2):=by
 intro e d ts rest ho ht dP;simp only [S.ok,Bool.and_eq_true] at ho;rw [S.tk] at ht;obtain ⟨v,r,rfl,h1,h2⟩:=map_cons ht;obtain ⟨u,r,rfl,h3,h4⟩:=map_cons h2;obtain ⟨A,r,rfl,h5,h6⟩:=cZ h4;obtain ⟨w,r,rfl,h7,h8⟩:=map_cons h6;obtain ⟨x,r,rfl,h9,ky⟩:=map_cons h8;obtain ⟨B,r,rfl,nL,nm⟩:=cZ ky;obtain ⟨y,r,rfl,eu,zu⟩:=map_cons nm;obtain ⟨z,r,rfl,Rb,W2⟩:=map_cons zu;obtain ⟨x2,r,rfl,Rc,W3⟩:=map_cons W2;obtain ⟨B2,r,rfl,W4,W5⟩:=cZ W3;obtain ⟨y2,rfl,Gi⟩:=gq W5;obtain ⟨h1,ct⟩:=dN h1;obtain ⟨h3,jx⟩:=dN h3;obtain ⟨h7,jO⟩:=dN h7;obtain ⟨h9,BK⟩:=dN h9;obtain ⟨eu,yH⟩:=dN eu;obtain ⟨Rb,VB⟩:=dN Rb;obtain ⟨Rc,VC⟩:=dN Rc;obtain ⟨Gi,VD⟩:=dN Gi
 have he:v::u::(A++w::x::(B++y::z::x2::(B2++[y2])))++rest=v::u::(A++w::(x::(B++y::(z::(x2::(B2++y2::rest)))))):=by simp
 have hi:=uz (e:=e) (d:=d+1) (rest:=x::(B++y::(z::(x2::(B2++y2::rest))))) ho.1 h5 h3 jx h7 jO (by simp);have hb:=C.blk (e:=e) (d:=d+1) (rest:=z::(x2::(B2++y2::rest))) ho.2.1 nL h9 BK eu yH;have ey:=C2.blk (e:=e) (d:=d+1) (rest:=rest) ho.2.2 W4 Rc VC Gi VD;have hv:=sy (rest:=u::(A++w::(x::(B++y::(z::(x2::(B2++y2::rest))))))) h1 ct;have hz:=sy (rest:=x2::(B2++y2::rest)) Rb VB;rw [he,S.fit]
 refine oC fun hd=>?_
 cases hfa:oK c (d+1) with
 | false =>
  refine ⟨fun hb=>(by simp at hb),fun _=>?_⟩;obtain ⟨pos,k1⟩:=hi.2 hfa;refine ⟨pos,qU fun f=>?_⟩;rw [rs,if_neg (by omega)];simp only;rw [if_neg (by rw [hv];decide),if_pos (.inl hv),tail_cons,k1]
 | true =>
  obtain ⟨tc,k1,k2⟩:=hi.1 hfa;rw [Bool.true_and]
  cases hfb:(decide (d+1<=60)&&S.fits l (d+2)) with
  | false =>
   refine ⟨fun hb=>(by simp at hb),fun _=>?_⟩;obtain ⟨pos,k3⟩:=hb.2 hfb;refine ⟨pos,wc k3 fun f k3=>?_⟩;rw [rs,if_neg (by omega)];simp only;rw [if_neg (by rw [hv];decide),if_pos (.inl hv),tail_cons,k2];simp only;rw [k3]
  | true =>
   obtain ⟨tb,k3,k4⟩:=hb.1 hfb;rw [Bool.true_and];refine ⟨fun h=>?_,fun h=>?_⟩
   ·obtain ⟨Yt,k5,k6⟩:=ey.1 h;refine ⟨one 9 v.at_ [] [tc,tb,Yt],by show er _=_;rw [dB,aI,aI,aI,k1,k3,k5,S.tree];rfl,F8 k4 k6 fun f k4 k6=>?_⟩;rw [rs,if_neg (by omega)];simp only;rw [if_neg (by rw [hv];decide),if_pos (.inl hv),tail_cons,k2];simp only;rw [k4];simp only;rw [if_pos hv,if_pos hz,tail_cons,k6];rfl
   ·obtain ⟨pos,k5⟩:=ey.2 h;refine ⟨pos,F8 k4 k5 fun f k4 k5=>?_⟩;rw [rs,if_neg (by omega)];simp only;rw [if_neg (by rw [hv];decide),if_pos (.inl hv),tail_cons,k2];simp only;rw [k4];simp only;rw [if_pos hv,if_pos hz,tail_cons,k5]
end
mutual
theorem coreS:∀ (s:S),qg s
 | .set s a=>MB s a
 | .put s a b=>Mz s a b
 | .if1 c b=>Mw c (xh b)
 | .if2 c b b2=>Mx c (xh b) (xh b2)
 | .while_ c b=>HO c (xh b)
 | .ret a=>MA a
 | .do_ a=>Ps a
 | .var s a=>MC s a
theorem xh:∀ (l:List S),qf l
 | []=>JB
 | a::l=>HM (coreS a) (xh l)
end
def HI (l:List S):List K:=kS [123]::(S.lQ l++[kS [125]])
def bB (l:List S):T:=.mk ⟨14,0,0,[],[]⟩ (S.trees l)
def ea (l:List S) (d:Nat):Bool:=decide (d<=60)&&S.fits l (d+1)
theorem Us (e:Int):∀ f,(∀ j ts,rs e f j ts=.error aR\/rs e (f+1) j ts=rs e f j ts)/\(∀ d acc ts,rs.body e f d acc ts=.error aR\/rs.body e (f+1) d acc ts=rs.body e f d acc ts):=by
 intro f
 induction f with
 | zero=>exact ⟨fun j ts=>.inl (by simp [rs]),fun d acc ts=>.inl (by simp [rs.body])⟩
 | succ f ih =>
  obtain ⟨i1,i2⟩:=ih;refine ⟨fun j ts=>?_,fun d acc ts=>?_⟩
  ·cases j with
   | block d =>
    rw [rs,rs];split
    ·exact .inr rfl
    ·cases aE e [123] ts with
     | error x=>exact .inr rfl
     | ok r =>
      simp only
      rcases i2 (d+1) [] r with h | h
      ·left;rw [h]
      ·rw [h];exact .inr rfl
   | stmt d =>
    rw [rs,rs];split
    ·exact .inr rfl
    ·simp only;split
     ·exact .inr rfl
     ·split
      ·cases inner e (d+1) [40] [41] ts.tail with
       | error x=>exact .inr rfl
       | ok y =>
        obtain ⟨c,r⟩:=y;simp only
        rcases i1 (.block (d+1)) r with h | h
        ·left;rw [h]
        ·rw [h]
         cases rs e f (.block (d+1)) r with
         | error x=>exact .inr rfl
         | ok y =>
          obtain ⟨b,r⟩:=y;simp only;split
          ·split
           ·rcases i1 (.block (d+1)) r.tail with h | h
            ·left;rw [h]
            ·rw [h];exact .inr rfl
           ·exact .inr rfl
          ·exact .inr rfl
      ·exact .inr rfl
  ·rw [rs.body,rs.body];split
   ·exact .inr rfl
   ·rcases i1 (.stmt d) ts with h | h
    ·left;rw [h]
    ·rw [h]
     cases rs e f (.stmt d) ts with
     | error x=>exact .inr rfl
     | ok y=>exact i2 _ _ _
theorem Qi {e:Int} {f f':Nat} {j:pG} {ts:List Tok} (h:rs e f j ts≠.error aR) (hf:f<=f'):rs e f' j ts=rs e f j ts:=by
 obtain ⟨k,rfl⟩:=Nat.exists_eq_add_of_le hf;clear hf
 induction k with
 | zero=>rfl
 | succ k ih =>
  rcases (Us e (f+k)).1 j ts with h1 | h1
  ·rw [ih] at h1;exact absurd h1 h
  ·rw [<-Nat.add_assoc,h1,ih]
theorem CZ {l:List S} {e:Int} {d:Nat} {ts rest:List Tok} (ho:S.cB l=true) (ht:ts.map kf=HI l) :
  (ea l d=true->∃ t,er t=bB l/\block e d (ts++rest)=.ok (t,rest))/\(ea l d=false->∃ pos,block e d (ts++rest)=.error (9,pos)):=by
 obtain ⟨u,r,rfl,h1,h2⟩:=map_cons ht;obtain ⟨A,r,rfl,h3,h4⟩:=cZ h2;obtain ⟨w,rfl,h5⟩:=gq h4;obtain ⟨h1,ct⟩:=dN h1;obtain ⟨h5,Ox⟩:=dN h5;have hb:=(xh l).blk (e:=e) (d:=d) (rest:=rest) ho h3 h1 ct h5 Ox
 have he:u::(A++[w])++rest=u::(A++w::rest):=by simp
 rw [he]
 have key:∀ {x:Rd T},Es e (.block d) (u::(A++w::rest)) x->block e d (u::(A++w::rest))=x:=by
  rintro x ⟨f0,h0⟩;have bO:rs e (lJ (u::(A++w::rest))) (.block d) (u::(A++w::rest))≠.error aR:=u6;have:=Qi bO (Nat.le_add_left _ f0);rw [h0 _ (by omega)] at this;exact this.symm
 exact ⟨fun h=>by obtain ⟨t,k1,k2⟩:=hb.1 h;exact ⟨t,k1,key k2⟩,fun h=>by obtain ⟨pos,k1⟩:=hb.2 h;exact ⟨pos,key k1⟩⟩
end Go.Xp
namespace Go.Xp
open Go.Sp (bg ei cV bM bH own lN fJ bd)
def xJ (n:Int):Int:=if n % 4294967296 > 2147483647 then n % 4294967296 - 4294967296 else n % 4294967296
def ca (n:Nat):ae:=if h:n < 10 then [UInt8.ofNat (48+n)] else ca (n / 10)++[UInt8.ofNat (48+n % 10)]
termination_by n
decreasing_by omega
theorem n8 (n:Nat):(ca n).length<=n+1:=by
 induction n using Nat.strongRecOn with
 | _ n ih =>
 unfold ca
 by_cases h:n < 10
 ·rw [dif_pos h];simp
 ·rw [dif_neg h,length_append];have:=ih (n / 10) (by omega);simp;omega
def bx:List ae->ae
 | []=>[]
 | x::r=>x++r.flatMap fun y=>44::32::y
theorem zR {l:List ae} (h:l≠[]) (x:ae):bx (l++[x])=(bx l++[44,32])++x:=by
 cases l with
 | nil=>exact absurd rfl h
 | cons a l=>simp [bx,List.flatMap_append]
theorem vm (l:List ae) (k:Nat):(bx (l.take k)).length<=(bx l).length:=by
 cases l with
 | nil=>simp
 | cons a l =>
  cases k with
  | zero=>simp [bx]
  | succ k =>
   simp only [take_succ_cons,bx,length_append]
   have:∀ (l:List ae) (k:Nat),((l.take k).flatMap fun y=>(44:UInt8)::32::y).length<=(l.flatMap fun y=>(44:UInt8)::32::y).length:=by
    intro l
    induction l with
    | nil=>intro k;simp
    | cons b l ih=>intro k;cases k with
     | zero=>simp
     | succ k=>simp only [take_succ_cons,flatMap_cons,length_append];have:=ih k;omega
   have:=this l k;omega
def pj (lv k:Nat) (x:ae):ae:=if lv < k then (40::x)++[41] else x
mutual
def E.txt:E->ae
 | .num n=>ca n.toNat
 | .name s=>s
 | .at_ s a=>((s++[91])++a.txt)++[93]
 | .call s l=>((s++[40])++bx (E.cx l))++[41]
 | .un s a=>(s++[32])++pj a.lv 9 a.txt
 | .bin s a b=>(((pj a.lv (dJ s) a.txt++[32])++s)++[32])++pj b.lv (dJ s+1) b.txt
def E.cx:List E->List ae
 | []=>[]
 | a::l=>a.txt::E.cx l
end
mutual
def E.full:E->ae
 | .num n=>ca n.toNat
 | .name s=>s
 | .at_ s a=>((s++[91])++a.full)++[93]
 | .call s l=>((s++[40])++bx (E.re l))++[41]
 | .un s a=>((40::s)++a.full)++[41]
 | .bin s a b=>(((((40::a.full)++[32])++s)++[32])++b.full)++[41]
def E.re:List E->List ae
 | []=>[]
 | a::l=>a.full::E.re l
end
theorem E.NY (l:List E):E.cx l=l.map E.txt:=by
 induction l with
 | nil=>rfl
 | cons a l ih=>rw [E.cx,ih];rfl
theorem E.J7 (l:List E):E.re l=l.map E.full:=by
 induction l with
 | nil=>rfl
 | cons a l ih=>rw [E.re,ih];rfl
def E.out (least:Bool) (a:E):ae:=if least then a.txt else a.full
mutual
def S.txt (x:E->ae):S->ae
 | .set s a=>((s++[32,61,32])++x a)++[59]
 | .put s a b=>((((s++[91])++x a)++[93,32,61,32])++x b)++[59]
 | .if1 c b=>(([105,102,32,40]++x c)++[41,32])++(S.cx x [123,32] b++[125])
 | .if2 c b b2=>(((([105,102,32,40]++x c)++[41,32])++(S.cx x [123,32] b++[125]))++[32,101,108,115,101,32])++(S.cx x [123,32] b2++[125])
 | .while_ c b=>(([119,104,105,108,101,32,40]++x c)++[41,32])++(S.cx x [123,32] b++[125])
 | .ret a=>([114,101,116,117,114,110,32]++x a)++[59]
 | .do_ a=>x a++[59]
 | .var s a=>((([118,97,114,32]++s)++[32,61,32])++x a)++[59]
def S.cx (x:E->ae):ae->List S->ae
 | acc,[]=>acc
 | acc,a::l=>S.cx x ((acc++a.txt x)++[32]) l
end
def eI (x:E->ae) (l:List S):ae:=S.cx x [123,32] l++[125]
theorem FL (n:Nd) (l:List T):cV (.mk n l)=(bM l&&bH (.mk n l)):=by rw [cV]
theorem sN {l:List T} (h:bM l=true) {t:T} (ht:t∈l):cV t=true:=by
 induction l with
 | nil=>cases ht
 | cons a l ih =>
  rw [bM,Bool.and_eq_true] at h
  rcases List.mem_cons.1 ht with rfl | ht
  ·exact h.1
  ·exact ih h.2 ht
theorem ly (n:Nd) (l:List T):er (.mk n l)=.mk ⟨n.kind,0,n.n,n.s,[]⟩ (aI l):=by rw [er]
theorem gJ {l:List T} {m i:Nat} (h:bd m i l=true):∀ (j:Nat) t,l[j]?=some t->(if i+j < m then lN t.n.kind else t.n.kind==14)=true:=by
 induction l generalizing i with
 | nil=>intro j t h;simp at h
 | cons a l ih =>
  rw [bd,Bool.and_eq_true] at h;intro j t hj
  cases j with
  | zero=>cases hj;exact h.1
  | succ j=>have:=ih h.2 j t (by simpa using hj);rw [show i+(j+1)=i+1+j by omega];exact this
theorem C9:∀ (l:List T),(∀ t∈l,∃ a:E,a.ok=true/\er t=a.tree)->∃ es:List E,E.cB es=true/\aI l=E.trees es
 | [],_=>⟨[],rfl,rfl⟩
 | t::l,h=>by
  obtain ⟨a,h1,h2⟩:=h t (mem_cons_self);obtain ⟨es,h3,h4⟩:=C9 l (fun t ht=>h t (mem_cons_of_mem _ ht));exact ⟨a::es,by simp [E.cB,h1,h3],by rw [aI,E.trees,h2,h4]⟩
theorem Yv:∀ (sz:Nat) (t:T),sizeOf t<=sz->cV t=true->lN t.n.kind=true->∃ a:E,a.ok=true/\er t=a.tree:=by
 intro sz
 induction sz with
 | zero=>intro t h;cases t;simp at h
 | succ sz ih =>
  intro t b8 ha hk;obtain ⟨n,l⟩:=t;rw [FL,Bool.and_eq_true] at ha;obtain ⟨ha,ho⟩:=ha
  have oR:∀ t∈l,lN t.n.kind=true->∃ a:E,a.ok=true/\er t=a.tree:=fun t ht hk=>by
   have:=List.sizeOf_lt_of_mem ht;exact ih t (by simp at b8;omega) (sN ha ht) hk
  obtain ⟨k,at_,v,s,ks⟩:=n
  have hk:(1:Int)<=k/\k<=6:=by
   simp only [lN,T.n,Bool.and_eq_true] at hk;exact ⟨of_decide_eq_true hk.1,of_decide_eq_true hk.2⟩
  simp only [bH,own,T.n,T.kids] at ho
  obtain rfl | rfl | rfl | rfl | rfl | rfl:k=1\/k=2\/k=3\/k=4\/k=5\/k=6:=by omega
  ·simp at ho;obtain ⟨h1,h2,h3,h4,h5⟩:=ho;subst h4 h5;exact ⟨.num v,by simp only [E.ok,Bool.and_eq_true];exact ⟨h2,h3⟩,by rw [ly,E.tree];rfl⟩
  ·simp at ho;obtain ⟨h1,h2,h3,h4⟩:=ho;subst h2 h4;exact ⟨.name s,by simp [E.ok,h3],by rw [ly,E.tree];rfl⟩
  ·simp at ho;obtain ⟨h1,h2,h3,h4,h5⟩:=ho;subst h2
   match l,h4 with
   | [t],_ =>
    have vR:=gJ h5 0 t rfl;obtain ⟨a,h6,h7⟩:=oR t (by simp) (by simpa using vR);exact ⟨.at_ s a,by simp [E.ok,h3,h6],by rw [ly,E.tree,aI,h7];rfl⟩
  ·simp at ho;obtain ⟨h1,h2,h3,h5⟩:=ho;subst h2
   obtain ⟨es,h6,h7⟩:=C9 l fun t ht=>oR t ht (by
    obtain ⟨j,hj⟩:=List.mem_iff_getElem?.1 ht;have aq:=(List.getElem?_eq_some_iff.1 hj).1;have:=gJ h5 j t hj
    rw [if_pos (by omega)] at this;exact this)
   exact ⟨.call s es,by simp [E.ok,h3,h6],by rw [ly,E.tree,h7]⟩
  ·simp at ho;obtain ⟨h1,h2,h3,h4,h5⟩:=ho;subst h2
   match l,h4 with
   | [t],_ =>
    have vR:=gJ h5 0 t rfl;obtain ⟨a,h6,h7⟩:=oR t (by simp) (by simpa using vR);exact ⟨.un s a,by simp only [E.ok,h6,Bool.and_true,Bool.or_eq_true,beq_iff_eq];exact h3,by rw [ly,E.tree,aI,h7];rfl⟩
  ·simp at ho;obtain ⟨h1,h2,h3,h4,h5⟩:=ho;subst h2
   match l,h4 with
   | [t,u],_ =>
    have vR:=gJ h5 0 t rfl;have Xy:=gJ h5 1 u rfl;obtain ⟨a,h6,h7⟩:=oR t (by simp) (by simpa using vR);obtain ⟨b,h8,h9⟩:=oR u (by simp) (by simpa using Xy);exact ⟨.bin s a b,by simp [E.ok,h3,h6,h8],by rw [ly,E.tree,aI,aI,h7,h9];rfl⟩
end Go.Xp
namespace Go.Xp
open Go.Sp (bg ei cV bM bH own lN fJ bd)
theorem Ew:∀ (l:List T),(∀ t∈l,∃ a:S,a.ok=true/\er t=a.tree)->∃ es:List S,S.cB es=true/\aI l=S.trees es
 | [],_=>⟨[],rfl,rfl⟩
 | t::l,h=>by
  obtain ⟨a,h1,h2⟩:=h t (mem_cons_self);obtain ⟨es,h3,h4⟩:=Ew l (fun t ht=>h t (mem_cons_of_mem _ ht));exact ⟨a::es,by simp [S.cB,h1,h3],by rw [aI,S.trees,h2,h4]⟩
theorem Yw:∀ (sz:Nat) (t:T),sizeOf t<=sz->cV t=true->(fJ t.n.kind=true->∃ a:S,a.ok=true/\er t=a.tree)/\(t.n.kind=14->∃ l:List S,S.cB l=true/\er t=bB l):=by
 intro sz
 induction sz with
 | zero=>intro t h;cases t;simp at h
 | succ sz ih =>
  intro t b8 ha;obtain ⟨n,l⟩:=t;rw [FL,Bool.and_eq_true] at ha;obtain ⟨ha,ho⟩:=ha
  have hex:∀ t∈l,lN t.n.kind=true->∃ a:E,a.ok=true/\er t=a.tree:=fun t ht hk=>Yv _ t (Nat.le_refl _) (sN ha ht) hk
  have dH:∀ t∈l,t.n.kind=14->∃ l:List S,S.cB l=true/\er t=bB l:=fun t ht hk=>by
   have:=List.sizeOf_lt_of_mem ht;exact (ih t (by simp at b8;omega) (sN ha ht)).2 hk
  have bE:∀ t∈l,fJ t.n.kind=true->∃ a:S,a.ok=true/\er t=a.tree:=fun t ht hk=>by
   have:=List.sizeOf_lt_of_mem ht;exact (ih t (by simp at b8;omega) (sN ha ht)).1 hk
  obtain ⟨k,at_,v,s,ks⟩:=n;simp only [bH,own,T.n,T.kids] at ho;refine ⟨fun hk=>?_,fun hk=>?_⟩
  ·have hk:(7:Int)<=k/\k<=13:=by
    simp only [fJ,T.n,Bool.and_eq_true] at hk;exact ⟨of_decide_eq_true hk.1,of_decide_eq_true hk.2⟩
   obtain rfl | rfl | rfl | rfl | rfl | rfl | rfl:k=7\/k=8\/k=9\/k=10\/k=11\/k=12\/k=13:=by omega
   ·simp at ho;obtain ⟨h1,h2,h3,h4,h5⟩:=ho;subst h2
    match l,h4 with
    | [t],_ =>
     obtain ⟨a,h6,h7⟩:=hex t (by simp) (by simpa using gJ h5 0 t rfl);exact ⟨.set s a,by simp [S.ok,h3,h6],by rw [ly,S.tree,aI,h7];rfl⟩
   ·simp at ho;obtain ⟨h1,h2,h3,h4,h5⟩:=ho;subst h2
    match l,h4 with
    | [t,u],_ =>
     obtain ⟨a,h6,h7⟩:=hex t (by simp) (by simpa using gJ h5 0 t rfl);obtain ⟨b,h8,h9⟩:=hex u (by simp) (by simpa using gJ h5 1 u rfl);exact ⟨.put s a b,by simp [S.ok,h3,h6,h8],by rw [ly,S.tree,aI,aI,h7,h9];rfl⟩
   ·simp at ho;obtain ⟨h1,h2,h3,h4,h5⟩:=ho;subst h2 h3
    rcases h4 with h4 | h4
    ·match l,h4 with
     | [t,u],_ =>
      obtain ⟨a,h6,h7⟩:=hex t (by simp) (by simpa using gJ h5 0 t rfl);obtain ⟨b,h8,h9⟩:=dH u (by simp) (by simpa using gJ h5 1 u rfl);exact ⟨.if1 a b,by simp [S.ok,h6,h8],by rw [ly,S.tree,aI,aI,h7,h9];rfl⟩
    ·match l,h4 with
     | [t,u,w],_ =>
      obtain ⟨a,h6,h7⟩:=hex t (by simp) (by simpa using gJ h5 0 t rfl);obtain ⟨b,h8,h9⟩:=dH u (by simp) (by simpa using gJ h5 1 u rfl);obtain ⟨c,ky,nL⟩:=dH w (by simp) (by simpa using gJ h5 2 w rfl);exact ⟨.if2 a b c,by simp [S.ok,h6,h8,ky],by rw [ly,S.tree,aI,aI,aI,h7,h9,nL];rfl⟩
   ·simp at ho;obtain ⟨h1,h2,h3,h4,h5⟩:=ho;subst h2 h3
    match l,h4 with
    | [t,u],_ =>
     obtain ⟨a,h6,h7⟩:=hex t (by simp) (by simpa using gJ h5 0 t rfl);obtain ⟨b,h8,h9⟩:=dH u (by simp) (by simpa using gJ h5 1 u rfl);exact ⟨.while_ a b,by simp [S.ok,h6,h8],by rw [ly,S.tree,aI,aI,h7,h9];rfl⟩
   ·simp at ho;obtain ⟨h1,h2,h3,h4,h5⟩:=ho;subst h2 h3
    match l,h4 with
    | [t],_ =>
     obtain ⟨a,h6,h7⟩:=hex t (by simp) (by simpa using gJ h5 0 t rfl);exact ⟨.ret a,by simp [S.ok,h6],by rw [ly,S.tree,aI,h7];rfl⟩
   ·simp at ho;obtain ⟨h1,h2,h3,h4,h5⟩:=ho;subst h2 h3
    match l,h4 with
    | [t],_ =>
     obtain ⟨a,h6,h7⟩:=hex t (by simp) (by simpa using gJ h5 0 t rfl);exact ⟨.do_ a,by simp [S.ok,h6],by rw [ly,S.tree,aI,h7];rfl⟩
   ·simp at ho;obtain ⟨h1,h2,h3,h4,h5⟩:=ho;subst h2
    match l,h4 with
    | [t],_ =>
     obtain ⟨a,h6,h7⟩:=hex t (by simp) (by simpa using gJ h5 0 t rfl);exact ⟨.var s a,by simp [S.ok,h3,h6],by rw [ly,S.tree,aI,h7];rfl⟩
  ·simp only [T.n] at hk;subst hk;simp at ho;obtain ⟨h1,h2,h3,h4⟩:=ho;subst h2 h4
   obtain ⟨es,h5,h6⟩:=Ew l fun t ht=>bE t ht (h3 t ht)
   exact ⟨es,h5,by rw [ly,bB,h6]⟩
theorem Yu {t:T} (h:cV t=true) (hk:t.n.kind=14):∃ l:List S,S.cB l=true/\er t=bB l:=(Yw _ t (Nat.le_refl _) h).2 hk
mutual
def wt:T->Nat
 | .mk n l=>30+n.s.length+ep l
def ep:List T->Nat
 | []=>0
 | t::l=>wt t+ep l
end
mutual
theorem Pc:∀ t:T,wt (er t)=wt t
 | .mk n l=>by rw [er,wt,wt,Ht l]
theorem Ht:∀ l:List T,ep (aI l)=ep l
 | []=>rfl
 | t::l=>by rw [aI,ep,ep,Pc t,Ht l]
end
theorem FX:∀ (k n:Nat),n < 10 ^ (k+1)->(ca n).length<=k+1:=by
 intro k
 induction k with
 | zero=>intro n h;unfold ca;rw [dif_pos (by omega)];simp
 | succ k ih =>
  intro n h;unfold ca;split
  ·simp
  ·rw [length_append];have:=ih (n / 10) (by rw [Nat.pow_succ] at h;omega);simp;omega
theorem rj (lv k:Nat) (x:ae):(pj lv k x).length<=x.length+2:=by unfold pj;split <;> simp
mutual
theorem E.len:∀ a:E,a.ok=true->a.txt.length+4<=wt a.tree/\a.full.length+4<=wt a.tree
 | .num n,h=>by
  simp only [E.ok,Bool.and_eq_true] at h;have h1:=of_decide_eq_true h.1;have h2:=of_decide_eq_true h.2;have:=FX 9 n.toNat (by omega);rw [E.txt,E.full,E.tree,wt];simp only [length_nil,ep];omega
 | .name s,h=>by rw [E.txt,E.full,E.tree,wt];simp only [ep];omega
 | .at_ s a,h=>by
  simp only [E.ok,Bool.and_eq_true] at h;have:=E.len a h.2;rw [E.txt,E.full,E.tree,wt];simp only [ep,length_append,length_cons,length_nil];omega
 | .call s l,h=>by
  simp only [E.ok,Bool.and_eq_true] at h;have:=E.lens l h.2;rw [E.txt,E.full,E.tree,wt];simp only [length_append,length_cons,length_nil];omega
 | .un s a,h=>by
  simp only [E.ok,Bool.and_eq_true] at h;have:=E.len a h.2;have:=rj a.lv 9 a.txt;rw [E.txt,E.full,E.tree,wt];simp only [ep,length_append,length_cons,length_nil];omega
 | .bin s a b,h=>by
  simp only [E.ok,Bool.and_eq_true] at h;have:=E.len a h.1.2;have:=E.len b h.2;have:=rj a.lv (dJ s) a.txt;have:=rj b.lv (dJ s+1) b.txt;rw [E.txt,E.full,E.tree,wt];simp only [ep,length_append,length_cons,length_nil];omega
theorem E.lens:∀ l:List E,E.cB l=true->(bx (E.cx l)).length<=ep (E.trees l)/\(bx (E.re l)).length<=ep (E.trees l)
 | [],_=>⟨Nat.zero_le _,Nat.zero_le _⟩
 | a::l,h=>by
  simp only [E.cB,Bool.and_eq_true] at h;have h1:=E.len a h.1;have h2:=E.lens l h.2;rw [E.cx,E.re,E.trees,ep]
  have key:∀ (x:ae) (l:List ae),(bx (x::l)).length<=x.length+2+(bx l).length:=by
   intro x l
   cases l with
   | nil=>simp [bx]
   | cons y l=>simp [bx];omega
  have:=key a.txt (E.cx l);have:=key a.full (E.re l);omega
end
mutual
theorem S.len (x:E->ae) (hx:∀ a:E,a.ok=true->(x a).length+4<=wt a.tree):∀ s:S,s.ok=true->(s.txt x).length+4<=wt s.tree
 | .set s a,h=>by
  simp only [S.ok,Bool.and_eq_true] at h;have:=hx a h.2;rw [S.txt,S.tree,wt];simp only [ep,length_append,length_cons,length_nil];omega
 | .put s a b,h=>by
  simp only [S.ok,Bool.and_eq_true] at h;have:=hx a h.2.1;have:=hx b h.2.2;rw [S.txt,S.tree,wt];simp only [ep,length_append,length_cons,length_nil];omega
 | .if1 c b,h=>by
  simp only [S.ok,Bool.and_eq_true] at h;have:=hx c h.1;have:=S.lens x hx b h.2 [123,32];rw [S.txt,S.tree,wt];simp only [ep,wt,length_append,length_cons,length_nil] at *;omega
 | .if2 c b b2,h=>by
  simp only [S.ok,Bool.and_eq_true] at h;have:=hx c h.1;have:=S.lens x hx b h.2.1 [123,32];have:=S.lens x hx b2 h.2.2 [123,32];rw [S.txt,S.tree,wt];simp only [ep,wt,length_append,length_cons,length_nil] at *;omega
 | .while_ c b,h=>by
  simp only [S.ok,Bool.and_eq_true] at h;have:=hx c h.1;have:=S.lens x hx b h.2 [123,32];rw [S.txt,S.tree,wt];simp only [ep,wt,length_append,length_cons,length_nil] at *;omega
 | .ret a,h=>by
  simp only [S.ok] at h;have:=hx a h;rw [S.txt,S.tree,wt];simp only [ep,length_append,length_cons,length_nil];omega
 | .do_ a,h=>by
  simp only [S.ok] at h;have:=hx a h;rw [S.txt,S.tree,wt];simp only [ep,length_append,length_cons,length_nil];omega
 | .var s a,h=>by
  simp only [S.ok,Bool.and_eq_true] at h;have:=hx a h.2;rw [S.txt,S.tree,wt];simp only [ep,length_append,length_cons,length_nil];omega
theorem S.lens (x:E->ae) (hx:∀ a:E,a.ok=true->(x a).length+4<=wt a.tree):∀ l:List S,S.cB l=true->∀ acc:ae,(S.cx x acc l).length<=acc.length+ep (S.trees l)
 | [],_,acc=>by rw [S.cx];omega
 | a::l,h,acc=>by
  simp only [S.cB,Bool.and_eq_true] at h;have h1:=S.len x hx a h.1;have h2:=S.lens x hx l h.2 ((acc++a.txt x)++[32]);rw [S.cx,S.trees,ep];simp only [length_append,length_cons,length_nil] at h2;omega
end
theorem ri (x:E->ae) (hx:∀ a:E,a.ok=true->(x a).length+4<=wt a.tree) {l:List S} (h:S.cB l=true):(eI x l).length<=wt (bB l):=by
 have:=S.lens x hx l h [123,32];unfold eI bB;rw [wt];simp only [length_append,length_cons,length_nil] at *;omega
end Go.Xp
namespace Go.Im
open Go.Xp Go.Sp
def ph (g:Nat->Option (T × Nat)):List Int->Nat->List T->Option (List T × Nat)
 | [],next,acc=>some (acc,next)
 | k::r,next,acc=>if k=(next:Int) then match g next with
  | none=>none
  | some (t,e)=>ph g r e (acc++[t])
  else none
def nt (nodes:List Nd):Nat->Nat->Option (T × Nat)
 | 0,_=>none
 | f+1,a=>match nodes[a]? with
  | none=>none
  | some n=>match ph (nt nodes f) n.kids (a+1) [] with
   | none=>none
   | some (l,e)=>if n.at_ < 0 then none else some (.mk n l,e)
def tr (nodes:List Nd) (a:Nat):Option (T × Nat):=nt nodes (nodes.length+1) a
theorem EI {nodes:List Nd} {g:Nat->Option (T × Nat)} (hg:∀ a t e,g a=some (t,e)->a < e/\e<=nodes.length/\e=a+aD t/\(nodes.take e).drop a=lj a t) :
  ∀ (ks:List Int) (next:Nat) (acc l:List T) (e:Nat),next<=nodes.length->ph g ks next acc=some (l,e)->∃ l',l=acc++l'/\e=next+ay l'/\e<=nodes.length/\ks=bN next l'/\(nodes.take e).drop next=dV next l'
 | [],next,acc,l,e,hn,h=>by
  rw [ph] at h;cases h;exact ⟨[],by simp,by simp [ay],hn,rfl,by rw [dV];exact eq_nil_of_length_eq_zero (by rw [length_drop,length_take];omega)⟩
 | k::r,next,acc,l,e,hn,h=>by
  rw [ph] at h;split at h
  ·rename_i hk
   cases hq:g next with
   | none=>rw [hq] at h;cases h
   | some x =>
    obtain ⟨t,e1⟩:=x;rw [hq] at h;simp only at h;obtain ⟨a1,a2,a3,a4⟩:=hg _ _ _ hq;obtain ⟨l',b1,b2,b3,b4,b5⟩:=EI hg r e1 (acc++[t]) l e a2 h;refine ⟨t::l',by rw [b1];simp,by rw [ay];omega,b3,by rw [bN,<-a3,<-b4,hk],?_⟩;rw [dV,<-a3,<-a4,<-b5]
    have he:e1<=e:=by omega
    have h1:(nodes.take e).take e1=nodes.take e1:=by rw [List.take_take,Nat.min_eq_left he]
    have h2:(nodes.take e).drop next=((nodes.take e).take e1).drop next++(nodes.take e).drop e1:=by
     have h3:nodes.take e=(nodes.take e).take e1++(nodes.take e).drop e1:=(take_append_drop _ _).symm
     have h4:((nodes.take e).take e1).length=e1:=by rw [length_take,length_take];omega
     rw [h3,List.drop_append_of_le_length (by rw [h4];omega)];rw [<-h3]
    rw [h2,h1]
  ·cases h
theorem za {nodes:List Nd}:∀ (f a:Nat) (t:T) (e:Nat),nt nodes f a=some (t,e)->a < e/\e<=nodes.length/\e=a+aD t/\(nodes.take e).drop a=lj a t
 | 0,a,t,e,h=>by cases h
 | f+1,a,t,e,h=>by
  rw [nt] at h
  cases hn:nodes[a]? with
  | none=>rw [hn] at h;cases h
  | some n =>
   rw [hn] at h;simp only at h;have aq:=(List.getElem?_eq_some_iff.1 hn).1
   cases hk:ph (nt nodes f) n.kids (a+1) [] with
   | none=>rw [hk] at h;cases h
   | some x =>
    obtain ⟨l,e1⟩:=x;rw [hk] at h;simp only at h;split at h
    ·cases h
    ·cases h;obtain ⟨l',b1,b2,b3,b4,b5⟩:=EI (za f) n.kids (a+1) [] l e aq hk
     have:l'=l:=by rw [b1];rfl
     subst this;refine ⟨by omega,b3,by rw [aD];omega,?_⟩;rw [lj,<-b4,<-b5]
     have h1:(nodes.take e)[a]?=some n:=by rw [getElem?_take,if_pos (by omega)];exact hn
     obtain ⟨h2,h3⟩:=List.getElem?_eq_some_iff.1 h1;rw [List.drop_eq_getElem_cons h2,h3]
def hY (nodes:List Nd):List Fn->Nat->List T->Option (List T × Nat)
 | [],next,acc=>some (acc,next)
 | f::r,next,acc=>match tr nodes next with
  | none=>none
  | some (t,e)=>if f.body=(next:Int) then hY nodes r e (acc++[t]) else none
def cM (k:Int) (n:Nat):Bool :=
 if k=1\/k=2 then ((n:Int)==0)
 else if k=4\/k=14 then true
 else if k=3\/k=5\/k=7\/k=11\/k=12\/k=13 then ((n:Int)==1)
 else if k=6\/k=8\/k=10 then ((n:Int)==2)
 else if k=9 then ((n:Int)==2) || ((n:Int)==3)
 else false
mutual
def fA:T->Bool
 | .mk n l=>cM n.kind l.length&&tL l
def tL:List T->Bool
 | []=>true
 | t::r=>fA t&&tL r
end
theorem wN (t:T):fA t=(cM t.n.kind t.kids.length&&tL t.kids):=by cases t;rw [fA];rfl
theorem sd (l:List T):tL l=l.all fA:=by
 induction l with
 | nil=>rfl
 | cons t l ih=>rw [tL,ih];rfl
end Go.Im
namespace Go.Im
open Go.Xp Go.Sp
mutual
def dx (nodes:List Nd):Nat->T->Prop
 | a,.mk n l=>nodes[a]?=some n/\n.kids=bN (a+1) l/\di nodes (a+1) l
def di (nodes:List Nd):Nat->List T->Prop
 | _,[]=>True
 | a,t::r=>dx nodes a t/\di nodes (a+aD t) r
end
mutual
def vX:T->Prop
 | .mk n l=>0<=n.at_/\lx l
def lx:List T->Prop
 | []=>True
 | t::r=>vX t/\lx r
end
theorem gP (t:T):1<=aD t:=by rw [eh];omega
mutual
theorem dx.le {nodes:List Nd}:∀ (t:T) (a:Nat),dx nodes a t->a+aD t<=nodes.length
 | .mk n l,a,h=>by
  rw [dx] at h;have h1:=(List.getElem?_eq_some_iff.1 h.1).1;have:=di.le l (a+1) h.2.2 h1;rw [aD];omega
theorem di.le {nodes:List Nd}:∀ (l:List T) (a:Nat),di nodes a l->a<=nodes.length->a+ay l<=nodes.length
 | [],a,h,ha=>by rw [ay];exact ha
 | t::r,a,h,ha=>by
  rw [di] at h;have h1:=dx.le t a h.1;have:=di.le r _ h.2 h1;rw [ay];omega
end
theorem F1 {nodes:List Nd}:∀ (f:Nat),(∀ (a d:Nat) (e:Int),ny nodes f a d=some e->0<=e->∃ t,dx nodes a t/\e=((a+aD t:Nat):Int)) /\
  (∀ (ks:List Int) (next d:Nat) (e:Int),mr nodes f ks (next:Int) d=some e->0<=e->∃ l,di nodes next l/\ks=bN next l/\e=((next+ay l:Nat):Int)):=by
 intro f
 induction f with
 | zero =>
  refine ⟨fun a d e h _=>by simp [ny] at h,fun ks next d e h _=>?_⟩
  cases ks with
  | nil=>rw [mr] at h;cases h;exact ⟨[],trivial,rfl,by simp [ay]⟩
  | cons k r=>simp [mr] at h
 | succ f ih =>
  refine ⟨fun a d e h he=>?_,fun ks next d e h he=>?_⟩
  ·rw [ny] at h;split at h
   ·cases h;omega
   ·cases hn:nodes[a]? with
    | none=>rw [hn] at h;cases h
    | some n =>
     rw [hn] at h;simp only at h;rw [show ((a:Int)+1)=((a+1:Nat):Int) by omega] at h;obtain ⟨l,h1,h2,h3⟩:=ih.2 _ _ _ _ h he;exact ⟨.mk n l,by rw [dx];exact ⟨hn,h2,h1⟩,by rw [h3,aD];omega⟩
  ·cases ks with
   | nil=>rw [mr] at h;cases h;exact ⟨[],trivial,rfl,by simp [ay]⟩
   | cons k r =>
    rw [mr] at h;split at h
    ·rename_i hk;subst hk;rw [Int.toNat_natCast] at h
     cases hq:ny nodes f next (d+1) with
     | none=>rw [hq] at h;cases h
     | some e1 =>
      rw [hq] at h;simp only at h;split at h
      ·cases h;omega
      ·rename_i h0;obtain ⟨t,h1,h2⟩:=ih.1 _ _ _ hq (by omega);subst h2;obtain ⟨l,h3,h4,h5⟩:=ih.2 _ _ _ _ h he;refine ⟨t::l,by rw [di];exact ⟨h1,h3⟩,by rw [bN,<-h4],by rw [h5,ay];omega⟩
    ·cases h;omega
theorem uU {nodes:List Nd}:∀ (f:Nat),(∀ (t:T) (a:Nat),dx nodes a t->2 * aD t<=f->sub nodes f a=some t) /\
  (∀ (l:List T) (a:Nat) (acc:List T),di nodes a l->2 * ay l+1<=f->nB nodes f (bN a l) acc=some (acc++l)):=by
 intro f
 induction f with
 | zero =>
  exact ⟨fun t a _ h=>by have:=gP t;omega,fun l a acc _ h=>by omega⟩
 | succ f ih =>
  refine ⟨fun t a hs h=>?_,fun l a acc hs h=>?_⟩
  ·obtain ⟨n,l⟩:=t;rw [dx] at hs;rw [aD] at h;rw [sub,hs.1];simp only;rw [hs.2.1,ih.2 l (a+1) [] hs.2.2 (by omega)];rfl
  ·cases l with
   | nil=>rw [bN,nB];simp
   | cons t l =>
    rw [di] at hs;rw [ay] at h;have:=gP t;rw [bN,nB,if_neg (by omega),Int.toNat_natCast,ih.1 t a hs.1 (by omega)];simp only;rw [ih.2 l _ _ hs.2 (by omega)];simp
theorem S3 {nodes:List Nd}:∀ (f:Nat) (t:T) (a:Nat),dx nodes a t->vX t->aD t<=f->nt nodes f a=some (t,a+aD t):=by
 intro f
 induction f with
 | zero=>intro t a _ _ h;have:=gP t;omega
 | succ f ih =>
  intro t a hs ha h;obtain ⟨n,l⟩:=t
  have key:∀ (l:List T) (a:Nat) (acc:List T),di nodes a l->lx l->ay l<=f->ph (nt nodes f) (bN a l) a acc=some (acc++l,a+ay l):=by
   intro l
   induction l with
   | nil=>intro a acc _ _ _;rw [bN,ph,ay];simp
   | cons t l ih2 =>
    intro a acc hs ha h;rw [di] at hs;rw [lx] at ha;rw [ay] at h;rw [bN,ph,if_pos rfl,ih t a hs.1 ha.1 (by omega)];simp only;rw [ih2 _ _ hs.2 ha.2 (by omega),ay];simp [Nat.add_assoc]
  rw [dx] at hs;rw [vX] at ha;rw [aD] at h;rw [nt,hs.1];simp only;rw [hs.2.1,key l (a+1) [] hs.2.2 ha.2 (by omega)];simp only;rw [if_neg (by omega),aD];simp only [nil_append,Option.some.injEq,Prod.mk.injEq,true_and];omega
theorem SU {nodes:List Nd}:∀ (f:Nat) (t:T) (a e:Nat),nt nodes f a=some (t,e)->dx nodes a t/\e=a+aD t/\vX t:=by
 intro f
 induction f with
 | zero=>intro t a e h;cases h
 | succ f ih =>
  intro t a e h
  have key:∀ (ks:List Int) (next:Nat) (acc l:List T) (e:Nat),ph (nt nodes f) ks next acc=some (l,e)->∃ l',l=acc++l'/\di nodes next l'/\ks=bN next l'/\e=next+ay l'/\lx l':=by
   intro ks
   induction ks with
   | nil=>intro next acc l e h;rw [ph] at h;cases h;exact ⟨[],by simp,trivial,rfl,by simp [ay],trivial⟩
   | cons k r ih2 =>
    intro next acc l e h
    rw [ph] at h;split at h
    ·rename_i hk
     cases hq:nt nodes f next with
     | none=>rw [hq] at h;cases h
     | some x =>
      obtain ⟨t,e1⟩:=x;rw [hq] at h;simp only at h;obtain ⟨a1,a2,a3⟩:=ih _ _ _ hq;subst a2;obtain ⟨l',b1,b2,b3,b4,b5⟩:=ih2 _ _ _ _ h;exact ⟨t::l',by rw [b1];simp,by rw [di];exact ⟨a1,b2⟩,by rw [bN,hk,b3],by rw [b4,ay];omega,by rw [lx];exact ⟨a3,b5⟩⟩
    ·cases h
  rw [nt] at h
  cases hn:nodes[a]? with
  | none=>rw [hn] at h;cases h
  | some n =>
   rw [hn] at h;simp only at h
   cases hk:ph (nt nodes f) n.kids (a+1) [] with
   | none=>rw [hk] at h;cases h
   | some x =>
    obtain ⟨l,e1⟩:=x;rw [hk] at h;simp only at h;split at h
    ·cases h
    ·rename_i h0;cases h;obtain ⟨l',b1,b2,b3,b4,b5⟩:=key _ _ _ _ _ hk
     have:l'=l:=by rw [b1];rfl
     subst this;exact ⟨by rw [dx];exact ⟨hn,b3,b2⟩,by rw [b4,aD];omega,by rw [vX];exact ⟨by omega,b5⟩⟩
theorem Px {nodes:List Nd} (hl:nodes.length<=800):∀ (f:Nat),(∀ (t:T) (a d:Nat),dx nodes a t->d<=a->2 * aD t<=f->ny nodes f a d=some ((a+aD t:Nat):Int)) /\
  (∀ (l:List T) (a d:Nat),di nodes a l->d < a->2 * ay l+1<=f->mr nodes f (bN a l) (a:Int) d=some ((a+ay l:Nat):Int)):=by
 intro f
 induction f with
 | zero =>
  exact ⟨fun t a d _ _ h=>by have:=gP t;omega,fun l a d _ _ h=>by omega⟩
 | succ f ih =>
  refine ⟨fun t a d hs hd h=>?_,fun l a d hs hd h=>?_⟩
  ·obtain ⟨n,l⟩:=t;rw [dx] at hs;rw [aD] at h |-;have aq:=(List.getElem?_eq_some_iff.1 hs.1).1;rw [ny,if_neg (by omega),hs.1];simp only;rw [show ((a:Int)+1)=((a+1:Nat):Int) by omega,hs.2.1,ih.2 l (a+1) d hs.2.2 (by omega) (by omega)]
   congr 1;omega
  ·cases l with
   | nil=>rw [bN,mr,ay];simp
   | cons t l =>
    rw [di] at hs;rw [ay] at h |-;have:=gP t;rw [bN,mr,if_pos rfl,Int.toNat_natCast,ih.1 t a (d+1) hs.1 (by omega) (by omega)];simp only;rw [if_neg (by omega),ih.2 l _ d hs.2 (by omega) (by omega)]
    congr 1;omega
theorem JJ {nodes:List Nd}:∀ (f:Nat),(∀ (a d:Nat),2 * (nodes.length - a)+1<=f->∃ e,ny nodes f a d=some e/\(0<=e->(a:Int) < e/\a < nodes.length)) /\
  (∀ (ks:List Int) (next d:Nat),2 * (nodes.length - next)+2<=f->∃ e,mr nodes f ks (next:Int) d=some e/\(0<=e->(next:Int)<=e)):=by
 intro f
 induction f with
 | zero=>exact ⟨fun a d h=>by omega,fun ks next d h=>by omega⟩
 | succ f ih =>
  refine ⟨fun a d h=>?_,fun ks next d h=>?_⟩
  ·rw [ny];split
   ·exact ⟨-1,rfl,fun h=>by omega⟩
   ·rename_i hc
    cases hn:nodes[a]? with
    | none=>rw [List.getElem?_eq_none_iff] at hn;omega
    | some n =>
     simp only;rw [show ((a:Int)+1)=((a+1:Nat):Int) by omega];obtain ⟨e,h1,h2⟩:=ih.2 n.kids (a+1) d (by omega);exact ⟨e,h1,fun h=>⟨by have:=h2 h;omega,by omega⟩⟩
  ·cases ks with
   | nil=>rw [mr];exact ⟨_,rfl,fun _=>Int.le_refl _⟩
   | cons k r =>
    rw [mr];split
    ·rename_i hk;subst hk;rw [Int.toNat_natCast]
     obtain ⟨e,h1,h2⟩:=ih.1 next (d+1) (by omega)
     rw [h1];simp only;split
     ·exact ⟨-1,rfl,fun h=>by omega⟩
     ·rename_i h0;have h3:=h2 (by omega);obtain ⟨m,rfl⟩:∃ m:Nat,e=(m:Int):=⟨e.toNat,by omega⟩;obtain ⟨e',h4,h5⟩:=ih.2 r m d (by omega);exact ⟨e',h4,fun h=>by have:=h5 h;omega⟩
    ·exact ⟨-1,rfl,fun h=>by omega⟩
def ff (Q:Fn->T->Prop):List Fn->Nat->List T->Prop
 | [],_,[]=>True
 | f::r,a,t::l=>f.body=(a:Int)/\Q f t/\ff Q r (a+aD t) l
 | _,_,_=>False
theorem ff.len {Q:Fn->T->Prop}:∀ {fns:List Fn} {a:Nat} {l:List T},ff Q fns a l->fns.length=l.length
 | [],_,[],_=>rfl
 | f::r,a,t::l,h=>by rw [ff] at h;rw [length_cons,length_cons,ff.len h.2.2]
 | [],_,t::l,h=>by cases h
 | f::r,_,[],h=>by cases h
theorem ff.mono {Q R:Fn->T->Prop}:∀ {fns:List Fn} {a:Nat} {l:List T},ff Q fns a l->(∀ f t,f∈fns->t∈l->Q f t->R f t)->ff R fns a l
 | [],_,[],_,_=>trivial
 | f::r,a,t::l,h,hq=>by
  rw [ff] at h |-;exact ⟨h.1,hq _ _ mem_cons_self mem_cons_self h.2.1,ff.mono h.2.2 fun f t hf ht=>hq f t (mem_cons_of_mem _ hf) (mem_cons_of_mem _ ht)⟩
 | [],_,t::l,h,_=>by cases h
 | f::r,_,[],h,_=>by cases h
theorem ff.at_ {Q:Fn->T->Prop}:∀ {fns:List Fn} {a:Nat} {l:List T},ff Q fns a l->∀ (i:Nat) f t,fns[i]?=some f->l[i]?=some t->f.body=((a+ay (l.take i):Nat):Int)/\Q f t
 | [],_,[],_,i,f,t,h1,h2=>by simp at h1
 | f::r,a,t::l,h,i,f',t',h1,h2=>by
  rw [ff] at h
  cases i with
  | zero=>cases h1;cases h2;rw [take_zero,ay];exact ⟨h.1,h.2.1⟩
  | succ i =>
   obtain ⟨k1,k2⟩:=ff.at_ h.2.2 i f' t' (by simpa using h1) (by simpa using h2);exact ⟨by rw [k1,take_succ_cons,ay];omega,k2⟩
 | [],_,t::l,h,_,_,_,_,_=>by cases h
 | f::r,_,[],h,_,_,_,_,_=>by cases h
structure Mf (f:Fn) (t:T):Prop where
 name:bg f.name=true
 params:b6 f.params=true
 kind:t.n.kind=14
 all:cV t=true
theorem xW {nodes:List Nd}:∀ (fns:List Fn) (next:Nat) (e:Int),fB nodes fns (next:Int)=some (some e)->∃ l,di nodes next l/\ff Mf fns next l/\e=((next+ay l:Nat):Int)
 | [],next,e,h=>by rw [fB] at h;cases h;exact ⟨[],trivial,trivial,by simp [ay]⟩
 | f::r,next,e,h=>by
  rw [fB,Int.toNat_natCast] at h
  cases hn:ny nodes (fN nodes) next 0 with
  | none=>rw [hn] at h;cases h
  | some e1 =>
   rw [hn] at h;simp only at h;split at h
   ·cases h
   ·rename_i hc;split at h
    ·cases h
    ·rename_i hp;obtain ⟨t,h1,h2⟩:=(F1 _).1 _ _ _ hn (by omega);have hle:=dx.le t _ h1;rw [(uU _).1 t next h1 (by unfold fN;omega)] at h;simp only at h;split at h
     ·cases h
     ·rename_i hk;subst h2;obtain ⟨l,k1,k2,k3⟩:=xW r _ e h;refine ⟨t::l,by rw [di];exact ⟨h1,k1⟩,?_,by rw [k3,ay];omega⟩;rw [ff];refine ⟨by omega,⟨?_,?_,?_,?_⟩,k2⟩
      ·cases hq:bg f.name with
       | true=>rfl
       | false=>exact absurd (.inr (.inl hq)) hc
      ·simpa using hp
      ·exact Decidable.byContradiction fun hq=>hk (.inl hq)
      ·cases hq:cV t with
       | true=>rfl
       | false=>exact absurd (.inr hq) hk
theorem xV {nodes:List Nd} (hl:nodes.length<=800):∀ (fns:List Fn) (next:Nat) (l:List T),di nodes next l->ff Mf fns next l->fB nodes fns (next:Int)=some (some ((next+ay l:Nat):Int))
 | [],next,[],_,_=>by rw [fB,ay];rfl
 | f::r,next,t::l,h,hf=>by
  rw [di] at h;rw [ff] at hf;have hle:=dx.le t _ h.1;rw [fB,Int.toNat_natCast,(Px hl _).1 t next 0 h.1 (Nat.zero_le _) (by unfold fN;omega)];simp only;rw [if_neg (by rw [hf.2.1.name];rintro (h | h | h);exact h hf.1;cases h;omega),if_neg (by rw [hf.2.1.params];decide),(uU _).1 t next h.1 (by unfold fN;omega)];simp only;rw [if_neg (by rw [hf.2.1.all];rintro (h | h);exact h hf.2.1.kind;cases h),xV hl r _ l h.2 hf.2.2,ay]
  congr 2;omega
 | [],_,t::l,_,h=>by cases h
 | f::r,_,[],_,h=>by cases h
theorem vO {nodes:List Nd}:∀ (fns:List Fn) (next:Nat),∃ r,fB nodes fns (next:Int)=some r
 | [],next=>⟨_,by rw [fB]⟩
 | f::r,next=>by
  obtain ⟨e,h1,h2⟩:=(JJ (nodes:=nodes) (fN nodes)).1 next 0 (by unfold fN;omega)
  rw [fB,Int.toNat_natCast,h1];simp only;split
  ·exact ⟨_,rfl⟩
  ·rename_i hc;split
   ·exact ⟨_,rfl⟩
   ·obtain ⟨t,k1,k2⟩:=(F1 _).1 _ _ _ h1 (by omega);have hle:=dx.le t _ k1;rw [(uU _).1 t next k1 (by unfold fN;omega)];simp only;split
    ·exact ⟨_,rfl⟩
    ·rw [k2];exact vO r _
theorem IX (p:Src):∃ b,ni p=some b:=by
 unfold ni;split
 ·exact ⟨_,rfl⟩
 ·split
  ·exact ⟨_,rfl⟩
  ·obtain ⟨r,h⟩:=vO (nodes:=p.nodes) p.fns 0;rw [show ((0:Nat):Int)=0 from rfl] at h;rw [h]
   cases r <;> exact ⟨_,rfl⟩
structure fv (p:Src) (l:List T):Prop where
 globals:b6 p.globals=true
 arrays:p.arrays.all nw=true
 st:di p.nodes 0 l
 fns:ff Mf p.fns 0 l
 len:ay l=p.nodes.length
 few:p.nodes.length<=800
theorem Qs {p:Src} (h:ni p=some true):∃ l,fv p l:=by
 unfold ni at h;split at h
 ·cases h
 ·rename_i h1;split at h
  ·cases h
  ·rename_i h2;rw [show (0:Int)=((0:Nat):Int) from rfl] at h
   cases hf:fB p.nodes p.fns ((0:Nat):Int) with
   | none=>rw [hf] at h;cases h
   | some r =>
    rw [hf] at h
    cases r with
    | none=>cases h
    | some e =>
     obtain ⟨l,k1,k2,k3⟩:=xW _ _ _ hf;simp only [Option.some.injEq,Bool.and_eq_true,beq_iff_eq,decide_eq_true_eq] at h;exact ⟨l,by simpa using h1,by simpa using h2,k1,k2,by omega,by omega⟩
theorem fv.ni {p:Src} {l:List T} (h:fv p l):ni p=some true:=by
 unfold Go.Sp.ni;rw [if_neg (by rw [h.globals];decide),if_neg (by rw [h.arrays];decide),show (0:Int)=((0:Nat):Int) from rfl,xV h.few _ _ _ h.st h.fns];simp only [Option.some.injEq,Bool.and_eq_true,beq_iff_eq,decide_eq_true_eq];have:=h.len;have:=h.few;omega
theorem Az {nodes:List Nd}:∀ (fns:List Fn) (next:Nat) (acc l:List T) (e:Nat),hY nodes fns next acc=some (l,e)->∃ l',l=acc++l'/\di nodes next l'/\ff (fun _ _=>True) fns next l'/\e=next+ay l'/\lx l'
 | [],next,acc,l,e,h=>by rw [hY] at h;cases h;exact ⟨[],by simp,trivial,trivial,by simp [ay],trivial⟩
 | f::r,next,acc,l,e,h=>by
  rw [hY] at h
  cases hq:tr nodes next with
  | none=>rw [hq] at h;cases h
  | some x =>
   obtain ⟨t,e1⟩:=x;rw [hq] at h;simp only at h;split at h
   ·rename_i hb;obtain ⟨a1,a2,a3⟩:=SU _ _ _ _ hq;subst a2;obtain ⟨l',b1,b2,b3,b4,b5⟩:=Az r _ _ _ _ h;exact ⟨t::l',by rw [b1];simp,by rw [di];exact ⟨a1,b2⟩,by rw [ff];exact ⟨hb,trivial,b3⟩,by rw [b4,ay];omega,by rw [lx];exact ⟨a3,b5⟩⟩
   ·cases h
theorem FQ {nodes:List Nd} {Q:Fn->T->Prop}:∀ (fns:List Fn) (next:Nat) (acc l:List T),di nodes next l->ff Q fns next l->lx l->hY nodes fns next acc=some (acc++l,next+ay l)
 | [],next,acc,[],_,_,_=>by rw [hY,ay];simp
 | f::r,next,acc,t::l,h,hf,ha=>by
  rw [di] at h;rw [ff] at hf;rw [lx] at ha;have hle:=dx.le t _ h.1;rw [hY,tr,S3 _ t next h.1 ha.1 (by omega)];simp only;rw [if_pos hf.1,FQ r _ _ l h.2 hf.2.2 ha.2,ay];simp [Nat.add_assoc]
 | [],_,_,t::l,_,h,_=>by cases h
 | f::r,_,_,[],_,h,_=>by cases h
mutual
theorem dx.fl {nodes:List Nd}:∀ (t:T) (a:Nat),dx nodes a t->(nodes.take (a+aD t)).drop a=lj a t
 | .mk n l,a,h=>by
  have hle:=dx.le _ _ h;rw [dx] at h;rw [aD] at hle;have h1:=di.fl l (a+1) h.2.2 (by have:=(List.getElem?_eq_some_iff.1 h.1).1;omega);rw [lj,<-h.2.1,<-h1,aD,show a+(ay l+1)=a+1+ay l by omega]
  have h2:(nodes.take (a+1+ay l))[a]?=some n:=by rw [getElem?_take,if_pos (by omega)];exact h.1
  obtain ⟨h3,h4⟩:=List.getElem?_eq_some_iff.1 h2;rw [List.drop_eq_getElem_cons h3,h4]
theorem di.fl {nodes:List Nd}:∀ (l:List T) (a:Nat),di nodes a l->a<=nodes.length->(nodes.take (a+ay l)).drop a=dV a l
 | [],a,h,ha=>by
  rw [dV];exact eq_nil_of_length_eq_zero (by rw [ay,length_drop,length_take];omega)
 | t::r,a,h,ha=>by
  rw [di] at h;have hle:=dx.le _ _ h.1;have h1:=dx.fl t a h.1;have h2:=di.fl r (a+aD t) h.2 hle;have yJ:=di.le r _ h.2 hle;rw [dV,<-h1,<-h2,ay,show a+(aD t+ay r)=a+aD t+ay r by omega]
  have h3:nodes.take (a+aD t)=(nodes.take (a+aD t+ay r)).take (a+aD t):=by rw [List.take_take,Nat.min_eq_left (by omega)]
  rw [h3];generalize hm:nodes.take (a+aD t+ay r)=m
  have dq:m.length=a+aD t+ay r:=by rw [<-hm,length_take];omega
  rw [<-List.drop_append_of_le_length (by rw [length_take];omega),take_append_drop]
end
theorem di.all {nodes:List Nd} {l:List T} (h:di nodes 0 l) (hl:ay l=nodes.length):nodes=dV 0 l:=by
 have:=di.fl l 0 h (Nat.zero_le _);rw [Nat.zero_add,hl,List.take_length,List.drop_zero] at this;exact this
end Go.Im
namespace Go.Im
open Go.Xp Go.Sp
def nb (n:Int):ae:=if n < 0 then 45::ca n.natAbs else ca n.toNat
def qF (s:ae):Int:=match levels.findIdx? (fun l=>l.contains s) with | some i=>(i:Int) | none => -1
def sP (b:Bool) (x:ae):ae:=if b=true then (40::x)++[41] else x
def kG (t:T) (least:Int):Bool:=(t.n.kind==6)&&decide (qF t.n.s < least)
def sG (n:Nd) (l:List T) (x:List ae):ae :=
 if n.kind=1 then nb n.n
 else if n.kind=3 then ((n.s++[91])++x.getD 0 [])++[93]
 else if n.kind=4 then ((n.s++[40])++bx x)++[41]
 else if n.kind=5 then (n.s++[32])++(match l with | a::_=>sP (a.n.kind==6) (x.getD 0 []) | []=>[])
 else if n.kind=6 then (match l with
  | a::b::_=>(((sP (kG a (qF n.s)) (x.getD 0 [])++[32])++n.s)++[32])++sP (kG b (qF n.s+1)) (x.getD 1 [])
  | _=>[])
 else n.s
mutual
def cD:T->ae
 | .mk n l=>sG n l (fj l)
def fj:List T->List ae
 | []=>[]
 | t::r=>cD t::fj r
end
theorem LL (t:T):cD t=sG t.n t.kids (fj t.kids):=by cases t;rw [cD];rfl
theorem Bj (l:List T):fj l=l.map cD:=by
 induction l with
 | nil=>rfl
 | cons t l ih=>rw [fj,ih];rfl
mutual
def iY:T->Nat
 | .mk n l=>n.s.length+60+fx l
def fx:List T->Nat
 | []=>0
 | t::r=>iY t+fx r
end
theorem nV (t:T):iY t=t.n.s.length+60+fx t.kids:=by cases t;rw [iY];rfl
theorem sI {l:List T} {t:T} (h:t∈l):iY t<=fx l:=by
 induction l with
 | nil=>cases h
 | cons a l ih =>
  rw [fx]
  rcases List.mem_cons.1 h with rfl | h
  ·omega
  ·have:=ih h;omega
theorem Nk (l:List T):l.length * 60<=fx l:=by
 induction l with
 | nil=>simp
 | cons t l ih=>rw [fx,nV,length_cons];omega
theorem BC {n:Nat} (h:n < 100000000000000000000):(ca n).length<=20:=FX 19 n (by simpa using h)
theorem wM {n:Int} (h : -9223372036854775808<=n/\n<=9223372036854775807):(nb n).length<=21:=by
 unfold nb;split
 ·have:=BC (n:=n.natAbs) (by omega);simp only [length_cons];omega
 ·have:=BC (n:=n.toNat) (by omega);omega
theorem xg (b:Bool) (x:ae):(sP b x).length<=x.length+2:=by
 unfold sP;split <;> simp
theorem Db:∀ (r:List ae),(r.flatMap fun y=>44::32::y).length=(r.map fun y=>y.length+2).sum
 | []=>rfl
 | z::r=>by
  have:=Db r;simp only [flatMap_cons,length_append,List.map_cons,sum_cons,length_cons] at this |-;omega
theorem yQ:∀ (x:List ae),(bx x).length<=(x.map fun y=>y.length+2).sum
 | []=>by simp [bx]
 | y::r=>by
  have h:=Db r;rw [List.map_cons,sum_cons,bx,length_append,h];omega
mutual
def oc:T->Prop
 | .mk n l=>(-9223372036854775808<=n.n/\n.n<=9223372036854775807)/\oZ l
def oZ:List T->Prop
 | []=>True
 | t::r=>oc t/\oZ r
end
theorem pX (t:T):oc t↔(-9223372036854775808<=t.n.n/\t.n.n<=9223372036854775807)/\oZ t.kids:=by cases t;rw [oc];exact Iff.rfl
theorem iV {l:List T} {t:T} (h:oZ l) (ht:t∈l):oc t:=by
 induction l with
 | nil=>cases ht
 | cons a l ih =>
  rw [oZ] at h
  rcases List.mem_cons.1 ht with rfl | ht
  ·exact h.1
  ·exact ih h.2 ht
theorem uX:∀ (N:Nat) (t:T),aD t<=N->oc t->(cD t).length+4<=iY t:=by
 intro N
 induction N with
 | zero=>intro t h;rw [eh] at h;omega
 | succ N ih =>
  intro t hN hn;rw [eh] at hN;rw [pX] at hn
  have hk:∀ a∈t.kids,(cD a).length+4<=iY a:=fun a ha=>by
   refine ih a ?_ (iV hn.2 ha)
   have:∀ (l:List T),a∈l->aD a<=ay l:=by
    intro l
    induction l with
    | nil=>intro h;cases h
    | cons b l ih2 =>
     intro h;rw [ay]
     rcases List.mem_cons.1 h with rfl | h
     ·omega
     ·have:=ih2 h;omega
   have:=this _ ha;omega
  have R5:((fj t.kids).map fun y=>y.length+2).sum<=fx t.kids:=by
   have:∀ (l:List T),(∀ a∈l,(cD a).length+4<=iY a)->((fj l).map fun y=>y.length+2).sum<=fx l:=by
    intro l
    induction l with
    | nil=>intro _;simp [fj]
    | cons a l ih2 =>
     intro h;have h1:=h a (mem_cons_self)
     have h2:=ih2 fun b hb=>h b (mem_cons_of_mem _ hb)
     rw [fj,fx,List.map_cons,sum_cons];omega
   exact this _ hk
  have h0:((fj t.kids).getD 0 []).length<=fx t.kids:=by
   cases hl:t.kids with
   | nil=>simp [fj]
   | cons a r =>
    have:=hk a (by rw [hl];exact mem_cons_self);rw [fj,fx];simp;omega
  have W0:∀ a b r,t.kids=a::b::r->((fj t.kids).getD 0 []).length+((fj t.kids).getD 1 []).length+8<=fx t.kids:=fun a b r hl=>by
   have h1:=hk a (by rw [hl];exact mem_cons_self);have h2:=hk b (by rw [hl];exact mem_cons_of_mem _ mem_cons_self);rw [hl,fj,fj,fx,fx];simp;omega
  rw [LL,nV];unfold sG;split
  ·have:=wM hn.1;omega
  ·split
   ·simp only [length_append,length_cons,length_nil];omega
   ·split
    ·have:=yQ (fj t.kids);simp only [length_append,length_cons,length_nil];omega
    ·split
     ·cases hl:t.kids with
      | nil=>simp <;> omega
      | cons a r =>
       simp only [length_append,length_cons,length_nil];have:=xg (a.n.kind==6) ((fj (a::r)).getD 0 []);rw [hl] at h0;omega
     ·split
      ·match hl:t.kids with
       | []=>simp <;> omega
       | [a]=>simp <;> omega
       | a::b::r =>
        have h1:=W0 a b r hl;rw [hl] at h1;have h2:=xg (kG a (qF t.n.s)) ((fj (a::b::r)).getD 0 []);have h3:=xg (kG b (qF t.n.s+1)) ((fj (a::b::r)).getD 1 []);simp only [length_append,length_cons,length_nil];omega
      ·omega
end Go.Im
namespace Go.Im
open Go.Xp Go.Sp
def vV (own:ae) (n:Nd) (k:Nat) (x b:List ae):ae :=
 if n.kind=13 then ((([118,97,114,32]++n.s)++[32,61,32])++x.getD 0 [])++[59]
 else if n.kind=7 then ((n.s++[32,61,32])++x.getD 0 [])++[59]
 else if n.kind=8 then ((((n.s++[91])++x.getD 0 [])++[93,32,61,32])++x.getD 1 [])++[59]
 else if n.kind=9 then (if k=3 then ((([105,102,32,40]++x.getD 0 [])++[41,32])++b.getD 1 [])++([32,101,108,115,101,32]++b.getD 2 []) else (([105,102,32,40]++x.getD 0 [])++[41,32])++b.getD 1 [])
 else if n.kind=10 then (([119,104,105,108,101,32,40]++x.getD 0 [])++[41,32])++b.getD 1 []
 else if n.kind=11 then ([114,101,116,117,114,110,32]++x.getD 0 [])++[59]
 else if n.kind=12 then x.getD 0 []++[59]
 else own
section
variable (tx:T->ae) (inl:List ae->Nat->ae)
mutual
def jq:Nat->T->ae
 | d,.mk n l=>vV (tx (.mk n l)) n l.length (l.map tx) (oI d l)
def oI:Nat->List T->List ae
 | _,[]=>[]
 | d,t::r=>mc d t::oI d r
def mc:Nat->T->ae
 | d,.mk n l=>inl (vU (d+1) l) d
def vU:Nat->List T->List ae
 | _,[]=>[]
 | d,t::r=>jq d t::vU d r
end
end
theorem LC (tx:T->ae) (inl:List ae->Nat->ae) (d:Nat) (t:T):jq tx inl d t=vV (tx t) t.n t.kids.length (t.kids.map tx) (oI tx inl d t.kids):=by cases t;rw [jq];rfl
theorem Jt (tx:T->ae) (inl:List ae->Nat->ae) (d:Nat) (t:T):mc tx inl d t=inl (vU tx inl (d+1) t.kids) d:=by cases t;rw [mc];rfl
theorem FP (tx:T->ae) (inl:List ae->Nat->ae) (d:Nat) (l:List T):oI tx inl d l=l.map (mc tx inl d):=by
 induction l with
 | nil=>rfl
 | cons t l ih=>rw [oI,ih];rfl
theorem Hf (tx:T->ae) (inl:List ae->Nat->ae) (d:Nat) (l:List T):vU tx inl d l=l.map (jq tx inl d):=by
 induction l with
 | nil=>rfl
 | cons t l ih=>rw [vU,ih];rfl
def qO (acc:ae) (l:List ae):ae:=l.foldl (fun acc s=>acc++(s++[32])) acc
def fb (l:List ae) (d:Nat):ae:=qO [123,32] l++[125]
def jF:List ae->Nat
 | []=>0
 | s::l=>s.length+1+jF l
theorem rK (l:List ae):∀ acc,(qO acc l).length=acc.length+jF l:=by
 induction l with
 | nil=>intro acc;simp [qO,jF]
 | cons s l ih =>
  intro acc;have:=ih (acc++(s++[32]));simp only [qO,foldl_cons,jF,length_append,length_cons,length_nil] at this |-;omega
theorem Ey (a b:List ae):jF (a++b)=jF a+jF b:=by
 induction a with
 | nil=>simp [jF]
 | cons s a ih=>simp only [cons_append,jF,ih];omega
theorem LH (l:List ae) (k:Nat):jF (l.take k)<=jF l:=by
 have:jF l=jF (l.take k)+jF (l.drop k):=by rw [<-Ey,take_append_drop]
 omega
theorem Jy (acc:ae) (l:List ae) (s:ae):qO acc (l++[s])=qO acc l++(s++[32]):=by simp [qO]
theorem Qu {l:List ae} {s:ae} (h:s∈l):s.length<=jF l:=by
 induction l with
 | nil=>cases h
 | cons a l ih =>
  rw [jF]
  rcases List.mem_cons.1 h with rfl | h
  ·omega
  ·have:=ih h;omega
theorem M0 {l:List ae} {d:Nat} {s:ae} (h:s∈l):s.length<=(fb l d).length:=by
 have h1:=Qu h;have h2:=rK l [123,32];unfold fb;rw [length_append,h2];omega
end Go.Im
namespace Go.Im
open Go.Xp Go.Sp
def g1 (s:ae):ae:=([105,110,116,32]++s)++[59,10]
def a1 (a:Ar):ae:=((([105,110,116,32]++a.name)++[91])++nb a.size)++[93,59,10]
def f1 (tx:T->ae) (inl:List ae->Nat->ae) (x:Fn × T):ae:=((((([102,117,110,99,32]++x.1.name)++[40])++bx x.1.params)++[41,32])++mc tx inl 0 x.2)++[10]
def db {α:Type} (f:α->ae):ae->List α->ae
 | acc,[]=>acc
 | acc,x::l=>db f (acc++f x) l
theorem vZ {α:Type} (f:α->ae) (l:List α) (x:α):∀ acc,db f acc (l++[x])=db f acc l++f x:=by
 induction l with
 | nil=>intro acc;rfl
 | cons y l ih=>intro acc;simp only [cons_append,db];exact ih _
theorem Mr {α:Type} (f:α->ae) (l k:List α):∀ acc,db f acc (l++k)=db f (db f acc l) k:=by
 induction l with
 | nil=>intro acc;rfl
 | cons y l ih=>intro acc;simp only [cons_append,db];exact ih _
theorem AB {α:Type} (f:α->ae) (l:List α):∀ acc,acc.length<=(db f acc l).length:=by
 induction l with
 | nil=>intro acc;exact Nat.le_refl _
 | cons y l ih=>intro acc;have:=ih (acc++f y);rw [db];rw [length_append] at this;omega
theorem v7 {α:Type} (f:α->ae) (l:List α) (k:Nat) (acc:ae):(db f acc (l.take k)).length<=(db f acc l).length:=by
 have:db f acc l=db f (db f acc (l.take k)) (l.drop k):=by rw [<-Mr,take_append_drop]
 rw [this];exact AB f _ _
def l6 (tx:T->ae) (inl:List ae->Nat->ae) (p:Src) (trees:List T):ae:=db (f1 tx inl) (db a1 (db g1 [] p.globals) p.arrays) (p.fns.zip trees)
end Go.Im
namespace Go.Im
def eO {α:Type} (p:α->α->Bool):List α->List α->Bool
 | [],[]=>true
 | a::r,b::s=>p a b&&eO p r s
 | _,_=>false
theorem xk {α:Type} {p:α->α->Bool}:∀ {a b:List α},eO p a b=true->a.length=b.length
 | [],[],_=>rfl
 | a::r,b::s,h=>by rw [eO,Bool.and_eq_true] at h;rw [length_cons,length_cons,xk h.2]
 | [],b::s,h=>by cases h
 | a::r,[],h=>by cases h
theorem qu {α:Type} {p:α->α->Bool} {a b:List α} (h:a.length≠b.length):eO p a b=false:=by
 cases hc:eO p a b with
 | false=>rfl
 | true=>exact absurd (xk hc) h
theorem C7 {α:Type} {p:α->α->Bool}:∀ {a b:List α} {k:Nat} {x y:α},a[k]?=some x->b[k]?=some y->eO p a b=true->p x y=true
 | a::r,b::s,0,x,y,h1,h2,h=>by cases h1;cases h2;rw [eO,Bool.and_eq_true] at h;exact h.1
 | a::r,b::s,k+1,x,y,h1,h2,h=>by rw [eO,Bool.and_eq_true] at h;exact C7 (by simpa using h1) (by simpa using h2) h.2
 | [],_,k,x,y,h1,h2,h=>by simp at h1
 | a::r,[],k,x,y,h1,h2,h=>by simp at h2
theorem qv {α:Type} {p:α->α->Bool} {a b:List α} {k:Nat} {x y:α} (h1:a[k]?=some x) (h2:b[k]?=some y) (h:p x y=false):eO p a b=false:=by
 cases hc:eO p a b with
 | false=>rfl
 | true=>have:=C7 h1 h2 hc;rw [h] at this;cases this
theorem F2 {α:Type} {p:α->α->Bool}:∀ {a b:List α},a.length=b.length->(∀ (k:Nat) x y,a[k]?=some x->b[k]?=some y->p x y=true)->eO p a b=true
 | [],[],_,_=>rfl
 | a::r,b::s,hl,h=>by
  rw [eO,h 0 a b rfl rfl,F2 (by simpa using hl) fun k x y h1 h2=>h (k+1) x y (by simpa using h1) (by simpa using h2)];rfl
 | [],b::s,hl,h=>by simp at hl
 | a::r,[],hl,h=>by simp at hl
def rM {α:Type} (p:α->α->Bool) (a b:List α) (k:Nat):Prop:=∀ j x y,j < k->a[j]?=some x->b[j]?=some y->p x y=true
theorem lh {α:Type} {p:α->α->Bool} {a b:List α} {k:Nat} {x y:α} (h1:a[k]?=some x) (h2:b[k]?=some y) (h:rM p a b k) (hp:p x y=true):rM p a b (k+1):=fun j u v hj h3 h4=>by
 by_cases he:j=k
 ·subst he;rw [h1] at h3;rw [h2] at h4;cases h3;cases h4;exact hp
 ·exact h j u v (by omega) h3 h4
theorem mu {α:Type} {p:α->α->Bool} {a b:List α} (hl:a.length=b.length) (h:rM p a b a.length):eO p a b=true :=
 F2 hl fun k x y h1 h2=>h k x y (List.getElem?_eq_some_iff.1 h1).1 h1 h2
def qm (a b:Go.Sp.Fn):Bool:=((a.name==b.name)&&eO (fun x y=>x==y) a.params b.params)&&(a.body==b.body)
def j0 (a b:Go.Xp.Nd):Bool:=(((a.kind==b.kind)&&(a.n==b.n))&&(a.s==b.s))&&eO (fun x y=>x==y) a.kids b.kids
def xT (x y:Go.Xp.Ar):Bool:=(x.name==y.name)&&(x.size==y.size)
end Go.Im
namespace Go.Im
open Go.Xp Go.Sp
theorem F7 (l:List T):(aI l).length=l.length:=by rw [rn,length_map]
theorem wb (t:T):(er t).n=⟨t.n.kind,0,t.n.n,t.n.s,[]⟩:=by cases t;rw [er];rfl
theorem Pz (t:T):(er t).kids=aI t.kids:=by cases t;rw [er];rfl
mutual
theorem uW:∀ t:T,aD (er t)=aD t
 | .mk n l=>by rw [er,aD,aD,uV l]
theorem uV:∀ l:List T,ay (aI l)=ay l
 | []=>by rw [aI]
 | t::r=>by rw [aI,ay,ay,uW t,uV r]
end
theorem B0 (m:Nat):∀ (l:List T) (i:Nat),bd m i (aI l)=bd m i l
 | [],i=>by rw [aI]
 | t::r,i=>by rw [aI,bd,bd,B0 m r (i+1),wb]
theorem Cn:∀ (l:List T),(aI l).all (fun x=>fJ x.n.kind)=l.all (fun x=>fJ x.n.kind)
 | []=>by rw [aI]
 | t::r=>by rw [aI,all_cons,all_cons,Cn r,wb]
theorem SE (n:Nd) (k:Nat) (kd:Nat->Bool) (bl:Bool) (h:0<=n.at_) (h':own ⟨n.kind,0,n.n,n.s,[]⟩ k kd bl=true):own n k kd bl=true:=by
 unfold own at h' |-;rw [if_neg (by simp)] at h';rw [if_neg (by simpa using h)];exact h'
mutual
theorem Jp:∀ t:T,cV (er t)=true->vX t->cV t=true
 | .mk n l,h,ha=>by
  rw [er,cV,Bool.and_eq_true] at h;rw [vX] at ha;rw [cV,Bool.and_eq_true];refine ⟨FN l h.1 ha.2,?_⟩;have h2:own ⟨n.kind,0,n.n,n.s,[]⟩ (aI l).length (fun m=>bd m 0 (aI l)) ((aI l).all fun x=>fJ x.n.kind)=true:=h.2;rw [F7,Cn] at h2;simp only [B0] at h2;exact SE n _ _ _ ha.1 h2
theorem FN:∀ l:List T,bM (aI l)=true->lx l->bM l=true
 | [],_,_=>rfl
 | t::r,h,ha=>by
  rw [aI,bM,Bool.and_eq_true] at h;rw [lx] at ha;rw [bM,Bool.and_eq_true];exact ⟨Jp t h.1 ha.1,FN r h.2 ha.2⟩
end
mutual
theorem Jo:∀ t:T,cV t=true->vX t
 | .mk n l,h=>by
  rw [cV,Bool.and_eq_true] at h;rw [vX];refine ⟨?_,FM l h.1⟩;have h2:own n l.length (fun m=>bd m 0 l) (l.all fun x=>fJ x.n.kind)=true:=h.2
  by_cases h0:n.at_ < 0
  ·unfold own at h2;rw [if_pos (by simpa using h0)] at h2;cases h2
  ·omega
theorem FM:∀ l:List T,bM l=true->lx l
 | [],_=>trivial
 | t::r,h=>by
  rw [bM,Bool.and_eq_true] at h;rw [lx];exact ⟨Jo t h.1,FM r h.2⟩
end
theorem jN (a:E):lN a.tree.n.kind=true:=by cases a <;> rfl
mutual
theorem E.fm:∀ a:E,a.ok=true->cV a.tree=true
 | .num n,h=>by
  simp only [E.ok,Bool.and_eq_true] at h;rw [E.tree,cV,bM];simp [bH,own,T.n,T.kids];exact h
 | .name s,h=>by
  simp only [E.ok] at h;rw [E.tree,cV,bM];simp [bH,own,T.n,T.kids,h]
 | .at_ s a,h=>by
  simp only [E.ok,Bool.and_eq_true] at h;have h2:=E.fm a h.2;have h3:=jN a;rw [E.tree,cV,bM,bM,h2];simp [bH,own,T.n,T.kids,h.1,bd];exact h3
 | .call s l,h=>by
  simp only [E.ok,Bool.and_eq_true] at h;obtain ⟨h2,h3⟩:=E.qK l h.2;rw [E.tree,cV,h2];have:=h3 (E.trees l).length 0 (by omega);simp [bH,own,T.n,T.kids,h.1,this]
 | .un s a,h=>by
  simp only [E.ok,Bool.and_eq_true] at h;have h2:=E.fm a h.2;have h3:=jN a;rw [E.tree,cV,bM,bM,h2];simp [bH,own,T.n,T.kids,bd];exact ⟨by simpa using h.1,h3⟩
 | .bin s a b,h=>by
  simp only [E.ok,Bool.and_eq_true] at h;have h2:=E.fm a h.1.2;have h3:=jN a;have h4:=E.fm b h.2;have h5:=jN b;rw [E.tree,cV,bM,bM,bM,h2,h4];simp [bH,own,T.n,T.kids,bd,h.1.1];exact ⟨h3,h5⟩
theorem E.qK:∀ l:List E,E.cB l=true->bM (E.trees l)=true/\∀ m i,i+(E.trees l).length<=m->bd m i (E.trees l)=true
 | [],_=>⟨rfl,fun m i _=>rfl⟩
 | a::l,h=>by
  simp only [E.cB,Bool.and_eq_true] at h;obtain ⟨h2,h3⟩:=E.qK l h.2;refine ⟨by rw [E.trees,bM,E.fm a h.1,h2];rfl,fun m i hm=>?_⟩;rw [E.trees,length_cons] at hm;rw [E.trees,bd,if_pos (by omega),jN a,h3 m (i+1) (by omega)];rfl
end
theorem SL (a:S):fJ a.tree.n.kind=true:=by cases a <;> rfl
mutual
theorem S.fm:∀ a:S,a.ok=true->cV a.tree=true
 | .set s a,h=>by
  simp only [S.ok,Bool.and_eq_true] at h;have h2:=E.fm a h.2;have h3:=jN a;rw [S.tree,cV,bM,bM,h2];simp [bH,own,T.n,T.kids,h.1,bd];exact h3
 | .var s a,h=>by
  simp only [S.ok,Bool.and_eq_true] at h;have h2:=E.fm a h.2;have h3:=jN a;rw [S.tree,cV,bM,bM,h2];simp [bH,own,T.n,T.kids,h.1,bd];exact h3
 | .ret a,h=>by
  simp only [S.ok] at h;have h2:=E.fm a h;have h3:=jN a;rw [S.tree,cV,bM,bM,h2];simp [bH,own,T.n,T.kids,bd];exact h3
 | .do_ a,h=>by
  simp only [S.ok] at h;have h2:=E.fm a h;have h3:=jN a;rw [S.tree,cV,bM,bM,h2];simp [bH,own,T.n,T.kids,bd];exact h3
 | .put s a b,h=>by
  simp only [S.ok,Bool.and_eq_true] at h;have h2:=E.fm a h.2.1;have h3:=jN a;have h4:=E.fm b h.2.2;have h5:=jN b;rw [S.tree,cV,bM,bM,bM,h2,h4];simp [bH,own,T.n,T.kids,bd,h.1];exact ⟨h3,h5⟩
 | .if1 c b,h=>by
  simp only [S.ok,Bool.and_eq_true] at h;have h2:=E.fm c h.1;have h3:=jN c;have h4:=S.uc b h.2;rw [S.tree,cV,bM,bM,bM,h2,h4];simp [bH,own,T.n,T.kids,bd];exact h3
 | .if2 c b b2,h=>by
  simp only [S.ok,Bool.and_eq_true] at h;have h2:=E.fm c h.1;have h3:=jN c;have h4:=S.uc b h.2.1;have h5:=S.uc b2 h.2.2;rw [S.tree,cV,bM,bM,bM,bM,h2,h4,h5];simp [bH,own,T.n,T.kids,bd];exact h3
 | .while_ c b,h=>by
  simp only [S.ok,Bool.and_eq_true] at h;have h2:=E.fm c h.1;have h3:=jN c;have h4:=S.uc b h.2;rw [S.tree,cV,bM,bM,bM,h2,h4];simp [bH,own,T.n,T.kids,bd];exact h3
theorem S.uc:∀ l:List S,S.cB l=true->cV (.mk ⟨14,0,0,[],[]⟩ (S.trees l))=true
 | l,h=>by
  obtain ⟨h1,h2⟩:=S.qK l h;have h3:bH (.mk ⟨14,0,0,[],[]⟩ (S.trees l))=own ⟨14,0,0,[],[]⟩ (S.trees l).length (fun m=>bd m 0 (S.trees l)) ((S.trees l).all fun x=>fJ x.n.kind):=rfl;rw [cV,h1,h3,h2];simp [own]
theorem S.qK:∀ l:List S,S.cB l=true->bM (S.trees l)=true/\(S.trees l).all (fun x=>fJ x.n.kind)=true
 | [],_=>⟨rfl,rfl⟩
 | a::l,h=>by
  simp only [S.cB,Bool.and_eq_true] at h;obtain ⟨h1,h2⟩:=S.qK l h.2;exact ⟨by rw [S.trees,bM,S.fm a h.1,h1];rfl,by rw [S.trees,all_cons,h2,SL a];rfl⟩
end
theorem Un {n:Nd} {k:Nat} {kd:Nat->Bool} {bl:Bool} (h:own n k kd bl=true):cM n.kind k=true:=by
 have hc:n.kind=1\/n.kind=2\/n.kind=3\/n.kind=4\/n.kind=5\/n.kind=6\/n.kind=7\/n.kind=8\/n.kind=9\/n.kind=10\/n.kind=11\/n.kind=12\/n.kind=13\/n.kind=14\/(n.kind < 1\/14 < n.kind):=by omega
 unfold own at h
 by_cases h0:decide (n.at_ < 0)=true
 ·rw [if_pos h0] at h;cases h
 rw [if_neg h0] at h
 by_cases h1:(n.kind != 1&&n.n != 0)=true
 ·rw [if_pos h1] at h;cases h
 rw [if_neg h1] at h;clear h0 h1
 rcases hc with hk | hk | hk | hk | hk | hk | hk | hk | hk | hk | hk | hk | hk | hk | hk
 all_goals (first | (simp [hk] at h;simp [cM,hk];done) | (simp [hk] at h;simp [cM,hk];omega) | (simp [hk] at h;simp [cM,hk,h];done) | skip)
 ·exfalso
  have e1:(n.kind==1)=false:=by simp;omega
  have e2:(n.kind==2)=false:=by simp;omega
  have e3:(n.kind==3)=false:=by simp;omega
  have e4:(n.kind==4)=false:=by simp;omega
  have e5:(n.kind==5)=false:=by simp;omega
  have e6:(n.kind==6)=false:=by simp;omega
  have e7:(n.kind==7)=false:=by simp;omega
  have e8:(n.kind==8)=false:=by simp;omega
  have e9:(n.kind==9)=false:=by simp;omega
  have UB:(n.kind==10)=false:=by simp;omega
  have WM:(n.kind==11)=false:=by simp;omega
  have WN:(n.kind==12)=false:=by simp;omega
  have WO:(n.kind==13)=false:=by simp;omega
  have WQ:(n.kind==14)=false:=by simp;omega
  rw [e1,e2,e3,e4,e5,e6,e7,e8,e9,UB,WM,WN,WO,WQ] at h;simp at h
mutual
theorem Oh:∀ t:T,cV t=true->fA t=true
 | .mk n l,h=>by
  rw [cV,Bool.and_eq_true] at h;rw [fA,Jq l h.1,Bool.and_true];exact Un h.2
theorem Jq:∀ l:List T,bM l=true->tL l=true
 | [],_=>rfl
 | t::r,h=>by
  rw [bM,Bool.and_eq_true] at h;rw [tL,Oh t h.1,Jq r h.2];rfl
end
theorem Nl (t:T) (z:Int):kG (er t) z=kG t z:=by unfold kG;rw [wb]
theorem QA (n:Nd) (l:List T) (x:List ae):sG ⟨n.kind,0,n.n,n.s,[]⟩ (aI l) x=sG n l x:=by
 unfold sG
 match l with
 | []=>rw [aI]
 | [a]=>rw [aI,aI];simp only [wb]
 | a::b::r=>rw [aI,aI];simp only [wb,Nl]
mutual
theorem LM:∀ t:T,cD (er t)=cD t
 | .mk n l=>by rw [er,cD,cD,Bi l,QA]
theorem Bi:∀ l:List T,fj (aI l)=fj l
 | []=>by rw [aI]
 | t::r=>by rw [aI,fj,fj,LM t,Bi r]
end
mutual
theorem SQ (inl:List ae->Nat->ae):∀ (t:T) (d:Nat),jq cD inl d (er t)=jq cD inl d t
 | .mk n l,d=>by
  have h:=LM (.mk n l);rw [er] at h |-;rw [jq,jq,h,FO inl l d,F7]
  have:(aI l).map cD=l.map cD:=by rw [<-Bj,<-Bj,Bi]
  rw [this];rfl
theorem FO (inl:List ae->Nat->ae):∀ (l:List T) (d:Nat),oI cD inl d (aI l)=oI cD inl d l
 | [],d=>by rw [aI]
 | t::r,d=>by rw [aI,oI,oI,Ju inl t d,FO inl r d]
theorem Ju (inl:List ae->Nat->ae):∀ (t:T) (d:Nat),mc cD inl d (er t)=mc cD inl d t
 | .mk n l,d=>by rw [er,mc,mc,He inl l (d+1)]
theorem He (inl:List ae->Nat->ae):∀ (l:List T) (d:Nat),vU cD inl d (aI l)=vU cD inl d l
 | [],d=>by rw [aI]
 | t::r,d=>by rw [aI,vU,vU,SQ inl t d,He inl r d]
end
theorem Lc {s:ae} (h:ei s=true):qF s=(dJ s:Int):=by
 unfold qF dJ
 cases hf:levels.findIdx? (fun l=>l.contains s) with
 | some i=>rfl
 | none =>
  rw [List.findIdx?_eq_none_iff] at hf;unfold ei at h;rw [any_eq_true] at h;obtain ⟨l,h1,h2⟩:=h;have:=hf l h1;rw [h2] at this;cases this
theorem GM {a:E} (h:a.ok=true) (k:Nat) (hk:k<=9):kG a.tree (k:Int)=decide (a.lv < k):=by
 have key:∀ b:Bool,(false&&b)=decide (9 < k):=fun b=>by rw [Bool.false_and,decide_eq_false (by omega)]
 cases a with
 | bin s x y =>
  simp only [E.ok,Bool.and_eq_true] at h;show (true&&decide (qF s < (k:Int)))=decide (dJ s < k);rw [Lc h.1.1,Bool.true_and];exact decide_eq_decide.2 (by omega)
 | num n=>exact key _
 | name n=>exact key _
 | at_ s a=>exact key _
 | call s l=>exact key _
 | un s a=>exact key _
theorem AA (lv k:Nat) (x:ae):sP (decide (lv < k)) x=pj lv k x:=by
 unfold sP pj
 by_cases h:lv < k
 ·rw [if_pos (by simpa using h),if_pos h]
 ·rw [if_neg (by simpa using h),if_neg h]
theorem QO {a:E} (h:a.ok=true):(a.tree.n.kind==6)=decide (a.lv < 9):=by
 cases a with
 | bin s x y =>
  simp only [E.ok,Bool.and_eq_true] at h;have:=(ox h.1.1).1;show true=decide (dJ s < 9);exact (decide_eq_true this).symm
 | _=>rfl
mutual
theorem iv:∀ a:E,a.ok=true->cD a.tree=a.txt
 | .num n,h=>by
  simp only [E.ok,Bool.and_eq_true,decide_eq_true_eq] at h;rw [E.tree,cD,E.txt];unfold sG nb;simp only [if_true];rw [if_neg (by omega)]
 | .name s,h=>by
  rw [E.tree,cD,E.txt];simp [sG]
 | .at_ s a,h=>by
  simp only [E.ok,Bool.and_eq_true] at h;have h2:=iv a h.2;rw [E.tree,cD,fj,fj,h2,E.txt];simp [sG]
 | .call s l,h=>by
  simp only [E.ok,Bool.and_eq_true] at h;rw [E.tree,cD,Hm l h.2,E.txt];simp [sG]
 | .un s a,h=>by
  simp only [E.ok,Bool.and_eq_true] at h;have h2:=iv a h.2;rw [E.tree,cD,fj,fj,h2,E.txt,<-AA,<-QO h.2];simp [sG]
 | .bin s a b,h=>by
  simp only [E.ok,Bool.and_eq_true] at h;have h2:=iv a h.1.2;have h3:=iv b h.2;have hl:=(ox h.1.1).1;have e1:=GM h.1.2 (dJ s) (by omega);have e2:=GM h.2 (dJ s+1) (by omega);rw [E.tree,cD,fj,fj,fj,h2,h3,E.txt,<-AA,<-AA,<-e1,<-e2];unfold sG;simp only [Lc h.1.1];simp
theorem Hm:∀ l:List E,E.cB l=true->fj (E.trees l)=E.cx l
 | [],_=>rfl
 | a::l,h=>by
  simp only [E.cB,Bool.and_eq_true] at h;rw [E.trees,fj,E.cx,iv a h.1,Hm l h.2]
end
theorem BA (x:E->ae):∀ (l:List S) (acc:ae),qO acc (l.map (S.txt x))=S.cx x acc l
 | [],acc=>by rw [S.cx];rfl
 | a::l,acc=>by
  rw [S.cx,<-BA x l];simp [qO,append_assoc]
mutual
theorem Qr:∀ (s:S),s.ok=true->∀ d,jq cD fb d s.tree=s.txt E.txt
 | .set s a,h,d=>by
  simp only [S.ok,Bool.and_eq_true] at h;rw [S.tree,jq,List.map_cons,iv a h.2,S.txt];simp [vV]
 | .var s a,h,d=>by
  simp only [S.ok,Bool.and_eq_true] at h;rw [S.tree,jq,List.map_cons,iv a h.2,S.txt];simp [vV]
 | .ret a,h,d=>by
  simp only [S.ok] at h;rw [S.tree,jq,List.map_cons,iv a h,S.txt];simp [vV]
 | .do_ a,h,d=>by
  simp only [S.ok] at h;rw [S.tree,jq,List.map_cons,iv a h,S.txt];simp [vV]
 | .put s a b,h,d=>by
  simp only [S.ok,Bool.and_eq_true] at h;rw [S.tree,jq,List.map_cons,List.map_cons,iv a h.2.1,iv b h.2.2,S.txt];simp [vV]
 | .if1 c b,h,d=>by
  simp only [S.ok,Bool.and_eq_true] at h;have hb:=ub b h.2 d;rw [S.tree,jq,List.map_cons,iv c h.1,oI,oI,oI,hb,S.txt];simp [vV,eI]
 | .if2 c b b2,h,d=>by
  simp only [S.ok,Bool.and_eq_true] at h;have hb:=ub b h.2.1 d;have ey:=ub b2 h.2.2 d;rw [S.tree,jq,List.map_cons,iv c h.1,oI,oI,oI,oI,hb,ey,S.txt];simp [vV,eI]
 | .while_ c b,h,d=>by
  simp only [S.ok,Bool.and_eq_true] at h;have hb:=ub b h.2 d;rw [S.tree,jq,List.map_cons,iv c h.1,oI,oI,oI,hb,S.txt];simp [vV,eI]
theorem ub:∀ (l:List S),S.cB l=true->∀ d,mc cD fb d (.mk ⟨14,0,0,[],[]⟩ (S.trees l))=eI E.txt l
 | l,h,d=>by
  rw [mc,Hg l h (d+1),fb,BA];rfl
theorem Hg:∀ (l:List S),S.cB l=true->∀ d,vU cD fb d (S.trees l)=l.map (S.txt E.txt)
 | [],_,d=>by rw [S.trees,vU];rfl
 | a::l,h,d=>by
  simp only [S.cB,Bool.and_eq_true] at h;rw [S.trees,vU,List.map_cons,Qr a h.1,Hg l h.2]
end
theorem pK {α:Type} {p:α->α->Bool} (h:∀ x,p x x=true):∀ l:List α,eO p l l=true
 | []=>rfl
 | a::l=>by rw [eO,h a,pK h l];rfl
theorem xj {α:Type} [BEq α] [LawfulBEq α]:∀ {a b:List α},eO (fun x y=>x==y) a b=true->a=b
 | [],[],_=>rfl
 | a::r,b::s,h=>by rw [eO,Bool.and_eq_true,beq_iff_eq] at h;rw [h.1,xj h.2]
 | [],b::s,h=>by cases h
 | a::r,[],h=>by cases h
theorem F3 {α:Type} {p:α->α->Bool}:∀ {a b:List α} {c d:List α},a.length=b.length->eO p (a++c) (b++d)=(eO p a b&&eO p c d)
 | [],[],c,d,_=>rfl
 | a::r,b::s,c,d,h=>by rw [cons_append,cons_append,eO,eO,F3 (by simpa using h),Bool.and_assoc]
 | [],b::s,_,_,h=>by simp at h
 | a::r,[],_,_,h=>by simp at h
theorem vn:∀ (l:List T) (a:Nat),bN a (aI l)=bN a l
 | [],a=>by rw [aI]
 | t::r,a=>by rw [aI,bN,bN,uW,vn r]
mutual
theorem PD:∀ (t u:T) (a:Nat),er t=er u->eO j0 (lj a t) (lj a u)=true
 | .mk n l,.mk m k,a,h=>by
  rw [er,er] at h
  injection h with h1 h2
  injection h1 with h3 h4 h5 h6 h7
  rw [lj,lj,eO,AN l k (a+1) h2,Bool.and_true,<-vn l,<-vn k,h2];simp only [j0,h3,h5,h6];simp [pK]
theorem AN:∀ (l k:List T) (a:Nat),aI l=aI k->eO j0 (dV a l) (dV a k)=true
 | [],[],a,_=>by rw [dV];rfl
 | t::r,u::s,a,h=>by
  rw [aI,aI] at h
  injection h with h1 h2
  have hz:aD t=aD u:=by rw [<-uW t,h1,uW u]
  rw [dV,dV,F3 (by rw [Gb,Gb,hz]),PD t u a h1,<-hz,AN r s _ h2];rfl
 | [],u::s,a,h=>by rw [aI,aI] at h;cases h
 | t::r,[],a,h=>by rw [aI,aI] at h;cases h
end
mutual
theorem Qn:∀ (t u:T) (a:Nat) (x y:List Nd),eO j0 (lj a t++x) (lj a u++y)=true->er t=er u/\eO j0 x y=true
 | .mk n l,.mk m k,a,x,y,h=>by
  rw [lj,lj,cons_append,cons_append,eO,Bool.and_eq_true] at h;obtain ⟨h1,h2⟩:=h;simp only [j0,Bool.and_eq_true,beq_iff_eq] at h1;obtain ⟨⟨⟨h3,h4⟩,h5⟩,h6⟩:=h1;have h7:=congrArg List.length (xj h6);rw [c6,c6] at h7;obtain ⟨h8,h9⟩:=Bh l k (a+1) x y h7 h2;exact ⟨by rw [er,er,h3,h4,h5,h8],h9⟩
theorem Bh:∀ (l k:List T) (a:Nat) (x y:List Nd),l.length=k.length->eO j0 (dV a l++x) (dV a k++y)=true->aI l=aI k/\eO j0 x y=true
 | [],[],a,x,y,_,h=>by rw [dV,nil_append,nil_append] at h;exact ⟨rfl,h⟩
 | t::r,u::s,a,x,y,hl,h=>by
  rw [dV,dV,append_assoc,append_assoc] at h;obtain ⟨h1,h2⟩:=Qn t u a _ _ h
  have hz:aD t=aD u:=by rw [<-uW t,h1,uW u]
  rw [<-hz] at h2;obtain ⟨h3,h4⟩:=Bh r s _ x y (by simpa using hl) h2;exact ⟨by rw [aI,aI,h1,h3],h4⟩
 | [],u::s,a,x,y,hl,h=>by simp at hl
 | t::r,[],a,x,y,hl,h=>by simp at hl
end
theorem Qm {l k:List T} (hl:l.length=k.length) (h:eO j0 (dV 0 l) (dV 0 k)=true):aI l=aI k:=by
 have:=Bh l k 0 [] [] hl (by rw [append_nil,append_nil];exact h);exact this.1
end Go.Im
namespace Go.Im
open Go.Xp Go.Sp
structure PS where
 trees:List T
 globals:List ae
 arrays:List Ar
 fns:List (ae × List ae)
def PS.empty:PS:=⟨[],[],[],[]⟩
def nP:Nat->List ae->RS->Option (List ae × RS)
 | 0,_,_=>none
 | f+1,acc,p =>
  if p.code=0/\is p 0 [41]=false then nP f (acc++[(tok (if acc.length=0 then p else want p [44]) 0).s]) (bf (if acc.length=0 then p else want p [44]))
  else some (acc,want p [41])
def iW (f:Nat) (p:RS) (st:PS):Option (RS × PS) :=
 if is p 0 kF=true then
  if (bf p.next).code=0/\is (bf p.next) 0 [91]=true then
   if (tok (bf p.next).next 0).kind=1 then
    some (want (want (bf p.next).next.next [93]) [59],{ st with arrays:=st.arrays++[⟨(tok p.next 0).s,(tok (bf p.next).next 0).n⟩] })
   else some (jw (bf p.next).next,st)
  else some (want (bf p.next) [59],{ st with globals:=st.globals++[(tok p.next 0).s] })
 else if is p 0 lP=true then
  match nP f [] (want (bf p.next) [40]) with
  | none=>none
  | some (l,q) =>
   if q.code=0 then match iS f (.block 1) q with
    | none=>none
    | some (t,q)=>some (q,{ st with trees:=st.trees++[t],fns:=st.fns++[((tok p.next 0).s,l)] })
   else some (q,st)
 else some (jw p,st)
def mh:Nat->Nat->RS->PS->Option (RS × PS)
 | 0,_,_,_=>none
 | g+1,f,p,st =>
  if p.code=0/\p.i < p.l.length then match iW f p st with
   | none=>none
   | some (p,st)=>mh g f p st
  else some (p,st)
theorem KK:∀ (f:Nat) (acc:List ae) (p:RS) (l:List ae) (q:RS),p.ok->nP f acc p=some (l,q)->p.to q
 | 0,_,_,_,_,_,h=>by cases h
 | f+1,acc,p,l,q,hp,h=>by
  rw [nP] at h;split at h
  ·have h1:p.to (if acc.length=0 then p else want p [44]):=by split;exact jb hp;exact bU hp _
   have h2:=gm (h1.ok hp);have h3:=KK f _ _ l q ((h1.trans h2).ok hp) h;exact (h1.trans h2).trans h3
  ·cases h;exact bU hp _
theorem TN {f:Nat} {p q:RS} {st dM:PS} (hp:p.ok) (h:iW f p st=some (q,dM)):p.to q:=by
 unfold iW at h;split at h
 ·rename_i hi;have h1:=iM hi;have h2:=h1.trans (gm (h1.ok hp));split at h
  ·rename_i hb;have h3:=h2.trans (iM hb.2);split at h
   ·rename_i hk
    have kP:(tok (bf p.next).next 0).kind≠0:=by rw [hk];decide
    have h4:=h3.trans (dp (by have:=qJ kP;exact this));have h5:=h4.trans (bU (h4.ok hp) [93])
    cases h;exact h5.trans (bU (h5.ok hp) _)
   ·cases h;exact h3.trans (vH (h3.ok hp))
  ·cases h;exact h2.trans (bU (h2.ok hp) _)
 ·split at h
  ·rename_i hi;have h1:=iM hi;have h2:=h1.trans (gm (h1.ok hp));have h3:=h2.trans (bU (h2.ok hp) [40])
   cases hm:nP f [] (want (bf p.next) [40]) with
   | none=>rw [hm] at h;cases h
   | some r =>
    obtain ⟨l,q1⟩:=r;rw [hm] at h;simp only at h;have h4:=h3.trans (KK _ _ _ _ _ (h3.ok hp) hm);split at h
    ·cases hb:iS f (.block 1) q1 with
     | none=>rw [hb] at h;cases h
     | some r =>
      obtain ⟨t,q2⟩:=r;rw [hb] at h;cases h;exact h4.trans ((CJ f).1 _ _ _ _ (h4.ok hp) hb)
    ·cases h;exact h4
  ·cases h;exact vH hp
structure PS.le (a:PS) (n:Nat):Prop where
 trees:a.trees.length<=n
 globals:a.globals.length<=n
 arrays:a.arrays.length<=n
 fns:a.fns.length=a.trees.length
theorem TL {f n:Nat} {p q:RS} {st dM:PS} (h:iW f p st=some (q,dM)) (hs:st.le n):dM.le (n+1):=by
 obtain ⟨a,b,c,d⟩:=hs;have key:st.le (n+1):=⟨by omega,by omega,by omega,d⟩;unfold iW at h;split at h
 ·split at h
  ·split at h
   ·cases h;exact ⟨by simp;omega,by simp;omega,by simp;omega,by simp;omega⟩
   ·cases h;exact key
  ·cases h;exact ⟨by simp;omega,by simp;omega,by simp;omega,by simp;omega⟩
 ·split at h
  ·split at h
   ·cases h
   ·split at h
    ·split at h
     ·cases h
     ·cases h;exact ⟨by simp;omega,by simp;omega,by simp;omega,by simp;omega⟩
    ·cases h;exact key
  ·cases h;exact key
end Go.Im
namespace Go.Sp
open Go.Xp
inductive Tz (s:ae):Nat->List Tok->Nat->Prop
 | nil (a:Nat):Tz s a [] a
 | blank {a b:Nat} {c:UInt8} {ts:List Tok} (hc:s[a]?=some c) (hb:dy c=true) (h:Tz s (a+1) ts b):Tz s a ts b
 | tok {a a' b:Nat} {c:UInt8} {t:Tok} {ts:List Tok} (hc:s[a]?=some c) (hb:dy c=false) (hr:bq s a [47,42]=false) (ht:gZ s a c=(t,a')) (hk:t.kind=1\/t.kind=2\/t.kind=3) (hn:t.n<=2147483647) (ha:a < a') (h:Tz s a' ts b):Tz s a (t::ts) b
theorem Tz.app {s:ae} {a b c:Nat} {ts us:List Tok} (h:Tz s a ts b) (k:Tz s b us c):Tz s a (ts++us) c:=by
 induction h with
 | nil a=>exact k
 | blank hc hb h ih=>exact .blank hc hb (ih k)
 | tok hc hb hr ht hk hn ha h ih=>exact .tok hc hb hr ht hk hn ha (ih k)
theorem Tz.kinds {s:ae} {a b:Nat} {ts:List Tok} (h:Tz s a ts b):∀ t∈ts,t.kind=1\/t.kind=2\/t.kind=3:=by
 induction h with
 | nil a=>intro t h;cases h
 | blank hc hb h ih=>exact ih
 | tok hc hb hr ht hk hn ha h ih =>
  intro t h
  rcases List.mem_cons.1 h with rfl | h
  ·exact hk
  ·exact ih t h
theorem Tz.len {s:ae} {a b:Nat} {ts:List Tok} (h:Tz s a ts b):a+ts.length<=b:=by
 induction h with
 | nil a=>simp
 | blank hc hb h ih=>omega
 | tok hc hb hr ht hk hn ha h ih=>simp only [length_cons];omega
theorem Lz (s:ae):∀ (f f' a:Nat),a<=s.length->s.length < f+a->s.length < f'+a->skip s f a=skip s f' a:=by
 intro f
 induction f with
 | zero=>intro f' a h1 h2;omega
 | succ f ih =>
  intro f' a h1 h2 h3;obtain ⟨f',rfl⟩:∃ g,f'=g+1:=⟨f' - 1,by omega⟩;rw [skip,skip]
  cases hc:s[a]? with
  | none=>rfl
  | some c =>
   simp only;have aq:=(List.getElem?_eq_some_iff.1 hc).1;split
   ·exact ih f' (a+1) (by omega) (by omega) (by omega)
   ·split
    ·rename_i hb;have hb:=iJ hb;have hb:a+2<=s.length:=hb;have h4:=rb s s.length (a+2) hb;have h5:=qi s s.length (a+2) hb (by omega);split
     ·rfl
     ·rename_i hn
      have h6:bq s (eD s s.length (a+2)) [42,47]=true:=by
       cases oq:bq s (eD s s.length (a+2)) [42,47] with
       | true=>rfl
       | false=>exact absurd ⟨by omega,oq⟩ h5
      have h6:=iJ h6;have h6:eD s s.length (a+2)+2<=s.length:=h6;exact ih f' _ (by omega) (by omega) (by omega)
    ·rfl
theorem Tz.gQ {s:ae} {a b:Nat} {ts:List Tok} (h:Tz s a ts b):∀ (f:Nat) (acc:List Tok),pg s (f+ts.length) (skip s (s.length+1) a).1 acc=pg s f (skip s (s.length+1) b).1 (acc++ts):=by
 induction h with
 | nil a=>intro f acc;simp
 | blank hc hb h ih =>
  rename_i a b c ts;intro f acc;have aq:=(List.getElem?_eq_some_iff.1 hc).1;rw [<-ih f acc]
  have:skip s (s.length+1) a=skip s (s.length+1) (a+1):=by
   rw [skip,hc];simp only;rw [if_pos hb];exact Lz s _ _ _ (by omega) (by omega) (by omega)
  rw [this]
 | tok hc hb hr ht hk hn ha h ih =>
  rename_i a a' b c t ts;intro f acc
  have:skip s (s.length+1) a=(a,-1):=by
   rw [skip,hc];simp only;rw [if_neg (by rw [hb];decide),if_neg (by rw [hr];decide)]
  rw [this,length_cons,<-Nat.add_assoc,pg,hc];simp only [ht];rw [ih f (acc++[t]),append_assoc];rfl
theorem Tz.all {s:ae} {ts:List Tok} (h:Tz s 0 ts s.length):Go.Sp.gQ s=some ts:=by
 have h1:=h.len;have h2:=h.gQ (s.length+2 - ts.length) [];unfold Go.Sp.gQ;rw [show s.length+2 - ts.length+ts.length=s.length+2 by omega] at h2;rw [h2]
 have h3:skip s (s.length+1) s.length=(s.length,-1):=by rw [skip];simp
 rw [h3];obtain ⟨g,hg⟩:∃ g,s.length+2 - ts.length=g+1:=⟨s.length+1 - ts.length,by omega⟩;rw [hg,pg];simp
theorem lS {s r:ae} {a:Nat} {c:UInt8} (h:s.drop a=c::r):s[a]?=some c/\s.drop (a+1)=r/\a < s.length:=by
 have h1:s[a]?=some c:=by
  have:=List.getElem?_drop (xs:=s) (i:=a) (j:=0);rw [h] at this;simpa using this.symm
 refine ⟨h1,?_,(List.getElem?_eq_some_iff.1 h1).1⟩;rw [<-List.tail_drop,h];rfl
theorem Qj (s:ae) (p:UInt8->Bool):∀ (w post:ae) (f a:Nat),s.drop a=w++post->(∀ c∈w,p c=true)->run s p (f+w.length) a=run s p f (a+w.length):=by
 intro w
 induction w with
 | nil=>intro post f a h hp;rfl
 | cons c w ih =>
  intro post f a h hp;obtain ⟨h1,h2,_⟩:=lS h;rw [length_cons,<-Nat.add_assoc,run,h1];simp only;rw [if_pos (hp c (mem_cons_self)),ih post f (a+1) h2 (fun c hc=>hp c (mem_cons_of_mem _ hc))]
  congr 1;omega
theorem NB (s:ae) (p:UInt8->Bool) (post:ae) (f a:Nat) (h:s.drop a=post) (hp:∀ c,post.head?=some c->p c=false):run s p f a=a:=by
 cases f with
 | zero=>rfl
 | succ f =>
  rw [run]
  cases post with
  | nil =>
   have:s[a]?=none:=by
    rw [List.getElem?_eq_none_iff];have:=congrArg List.length h;simp at this;omega
   rw [this]
  | cons c r =>
   obtain ⟨h1,_,_⟩:=lS h;rw [h1];simp only;rw [if_neg (by rw [hp c rfl];decide)]
theorem take_drop {s w post:ae} {a:Nat} (h:s.drop a=w++post):(s.take (a+w.length)).drop a=w:=by
 rw [List.drop_take,h,Nat.add_sub_cancel_left,List.take_left]
theorem DS {s w post:ae} {a:Nat} (h:s.drop a=w++post) (ha:a<=s.length):a+w.length+post.length=s.length:=by
 have:=congrArg List.length h;simp only [length_drop,length_append] at this;omega
theorem N7 {s w post:ae} {a:Nat} {c:UInt8} {r:ae} (ha:a<=s.length) (h:s.drop a=w++post) (hw:w=c::r) (hs:small c=true) (aM:∀ c∈w,dK c=true) (hp:∀ c,post.head?=some c->dK c=false) :
  gZ s a c=(⟨if words.contains w=true then 3 else 2,0,w,a⟩,a+w.length):=by
 have hl:=DS h ha
 have he:ej s a=a+w.length:=by
  unfold ej;obtain ⟨g,hg⟩:∃ g,s.length+1=g+w.length:=⟨s.length+1 - w.length,by omega⟩;rw [hg,Qj s dK w post g a h aM];refine NB s dK post g _ ?_ hp;rw [<-List.drop_drop,h,drop_left]
 have hd:dO c=false:=by
  simp only [small,dO,Bool.and_eq_true] at hs |-;have h1:=of_decide_eq_true hs.1
  have:¬ ((c.toNat:Int)<=57):=by omega
  simp [this]
 unfold gZ;rw [if_neg (by rw [hd];decide),if_pos hs];unfold eL;rw [he,take_drop h]
def fold (n:Int) (w:ae):Int:=w.foldl (fun n c=>if n<=2147483647 then n * 10+((c.toNat:Int) - 48) else n) n
theorem ID (s:ae):∀ (w post:ae) (f:Nat) (n:Int) (a:Nat),s.drop a=w++post->(∀ c∈w,dO c=true)->number s (f+w.length) n a=number s f (fold n w) (a+w.length):=by
 intro w
 induction w with
 | nil=>intro post f n a h hp;rfl
 | cons c w ih =>
  intro post f n a h hp;obtain ⟨h1,h2,_⟩:=lS h;rw [length_cons,<-Nat.add_assoc,number,h1];simp only;rw [if_pos (hp c (mem_cons_self)),ih post f _ (a+1) h2 (fun c hc=>hp c (mem_cons_of_mem _ hc))];rw [show a+1+w.length=a+(w.length+1) by omega];rfl
theorem Fx (s:ae) (post:ae) (f:Nat) (n:Int) (a:Nat) (h:s.drop a=post) (hp:∀ c,post.head?=some c->dO c=false):number s f n a=(n,a):=by
 cases f with
 | zero=>rfl
 | succ f =>
  rw [number]
  cases post with
  | nil =>
   have:s[a]?=none:=by
    rw [List.getElem?_eq_none_iff];have:=congrArg List.length h;simp at this;omega
   rw [this]
  | cons c r =>
   obtain ⟨h1,_,_⟩:=lS h;rw [h1];simp only;rw [if_neg (by rw [hp c rfl];decide)]
theorem JH (k:Nat) (h:k<=9):dO (UInt8.ofNat (48+k))=true/\((UInt8.ofNat (48+k)).toNat:Int)=48+k:=by
 have:(UInt8.ofNat (48+k)).toNat=48+k:=by simp;omega
 refine ⟨?_,by rw [this];omega⟩;simp only [dO,Bool.and_eq_true,this];exact ⟨decide_eq_true (by omega),decide_eq_true (by omega)⟩
theorem FY (n:Nat):(∀ c∈ca n,dO c=true)/\(n<=2147483647->fold 0 (ca n)=n)/\ca n≠[]:=by
 induction n using Nat.strongRecOn with
 | _ n ih =>
 unfold ca
 by_cases h:n < 10
 ·rw [dif_pos h];obtain ⟨h1,h2⟩:=JH n (by omega);refine ⟨fun c hc=>by rw [mem_singleton] at hc;subst hc;exact h1,fun _=>?_,by simp⟩;simp only [fold,foldl_cons,List.foldl_nil];rw [if_pos (by omega),h2];omega
 ·rw [dif_neg h];obtain ⟨h1,h2,h3⟩:=ih (n / 10) (by omega);obtain ⟨h4,h5⟩:=JH (n % 10) (by omega);refine ⟨fun c hc=>?_,fun hn=>?_,by simp⟩
  ·rcases List.mem_append.1 hc with hc | hc
   ·exact h1 c hc
   ·rw [mem_singleton] at hc;subst hc;exact h4
  ·have:=h2 (by omega);unfold fold at this |-;rw [List.foldl_append,this];simp only [foldl_cons,List.foldl_nil];rw [if_pos (by omega),h5];omega
theorem P7 {s post:ae} {n a:Nat} {c:UInt8} {r:ae} (ha:a<=s.length) (h:s.drop a=ca n++post) (hw:ca n=c::r) (hn:n<=2147483647) (hp:∀ c,post.head?=some c->dO c=false) :
  gZ s a c=(⟨1,n,[],a⟩,a+(ca n).length):=by
 obtain ⟨h1,h2,h3⟩:=FY n;have hl:=DS h ha;have hd:dO c=true:=h1 c (by rw [hw];exact mem_cons_self);obtain ⟨g,hg⟩:∃ g,s.length+1=g+(ca n).length:=⟨s.length+1 - (ca n).length,by omega⟩;unfold gZ;rw [if_pos hd,hg,ID s (ca n) post g 0 a h h1,h2 hn,Fx s post g _ _ (by rw [<-List.drop_drop,h,drop_left]) hp]
theorem tD {s r t:ae} {a:Nat} (h:s.drop a=r) (ha:a<=s.length):bq s a t=t.isPrefixOf r:=by
 have hl:a+r.length=s.length:=by have:=congrArg List.length h;simp at this;omega
 unfold bq;rw [List.drop_take,h,Nat.add_sub_cancel_left]
 by_cases hp:t <+: r
 ·obtain ⟨z,rfl⟩:=hp;simp only [length_append] at hl
  have h2:t.isPrefixOf (t++z)=true:=by rw [List.isPrefixOf_iff_prefix];exact ⟨z,rfl⟩
  rw [h2,List.take_left];simp only [Bool.and_eq_true,beq_self_eq_true,and_true,decide_eq_true_eq];omega
 ·have h1:t.isPrefixOf r=false:=by
   cases hh:t.isPrefixOf r with
   | false=>rfl
   | true=>exact absurd (List.isPrefixOf_iff_prefix.1 hh) hp
  rw [h1]
  have h2:(r.take t.length==t)=false:=by
   rw [beq_eq_false_iff_ne];intro h3;exact hp ⟨r.drop t.length,by have:=take_append_drop t.length r;rw [h3] at this;exact this⟩
  rw [h2,Bool.and_false]
def Bf:List UInt8:=[32,40,41,91,93,44,59,123,125,10]
def Sep (post:ae):Prop:=∀ c,post.head?=some c->c∈Bf
theorem Sep.dK {post:ae} (h:Sep post):∀ c,post.head?=some c->dK c=false:=by
 intro c hc
 have:∀ c∈Bf,Go.Sp.dK c=false:=by decide
 exact this c (h c hc)
theorem Sep.dO {post:ae} (h:Sep post):∀ c,post.head?=some c->dO c=false:=by
 intro c hc
 have:∀ c∈Bf,Go.Sp.dO c=false:=by decide
 exact this c (h c hc)
theorem Qd {x y z:ae} (h:x.length<=y.length):x.isPrefixOf (y++z)=x.isPrefixOf y:=by
 induction x generalizing y with
 | nil=>simp
 | cons a x ih =>
  cases y with
  | nil=>simp at h
  | cons b y=>simp only [cons_append,List.isPrefixOf];rw [ih (by simpa using h)]
theorem find_congr {α:Type} {p q:α->Bool}:∀ {l:List α},(∀ x∈l,p x=q x)->l.find? p=l.find? q
 | [],_=>rfl
 | a::l,h=>by rw [List.find?_cons,List.find?_cons,h a (mem_cons_self),find_congr (fun x hx=>h x (mem_cons_of_mem _ hx))]
theorem NI {s w post:ae} {a:Nat} {c:UInt8} {r:ae} (ha:a<=s.length) (h:s.drop a=w++post) (hw:w=c::r) (hm:w∈bD) (hp:Sep post) :
  gZ s a c=(⟨3,0,w,a⟩,a+w.length)/\dy c=false/\bq s a [47,42]=false:=by
 have hd:∀ w∈bD,∀ c,w.head?=some c->dO c=false/\small c=false/\dy c=false:=by
  have:∀ w∈bD,(match w.head? with | some c=>!dO c&&!small c&&!dy c | none=>true)=true:=by decide
  intro w hw c hc;have:=this w hw;rw [hc] at this;simp only [Bool.and_eq_true,Bool.not_eq_true'] at this;exact ⟨this.1.1,this.1.2,this.2⟩
 obtain ⟨h1,h2,h3⟩:=hd w hm c (by rw [hw];rfl)
 have H6:∀ w∈bD,w.length<=2/\1<=w.length:=by decide
 have key:∀ w∈bD,bD.find? (fun x=>x.isPrefixOf w)=some w/\[47,42].isPrefixOf w=false:=by decide
 have Wm:∀ w∈bD,∀ c∈Bf,bD.find? (fun x=>x.isPrefixOf (w++[c]))=some w/\[47,42].isPrefixOf (w++[c])=false:=by decide
 have hf:bD.find? (bq s a)=some w/\bq s a [47,42]=false:=by
  have e1:∀ x,bq s a x=x.isPrefixOf (w++post):=fun x=>tD h ha
  have e2:bD.find? (bq s a)=bD.find? (fun x=>x.isPrefixOf (w++post)):=find_congr fun x _=>e1 x
  rw [e2,e1]
  cases post with
  | nil=>rw [append_nil];exact key w hm
  | cons c' post =>
   have dj:=hp c' rfl
   have e3:∀ x:ae,x.length<=2->x.isPrefixOf (w++c'::post)=x.isPrefixOf (w++[c']):=fun x hx=>by
    rw [show w++c'::post=(w++[c'])++post by simp];exact Qd (by rw [length_append];have:=(H6 w hm).2;simp;omega)
   rw [find_congr fun x hx=>e3 x (H6 x hx).1,e3 _ (by decide)];exact Wm w hm c' dj
 refine ⟨?_,h3,hf.2⟩;unfold gZ;rw [if_neg (by rw [h1];decide),if_neg (by rw [h2];decide),hf.1]
theorem MK {s post:ae} {a:Nat} {c:UInt8} (ha:a<=s.length) (h:s.drop a=c::post) (hm:c∈[40,41,91,93,44,59,123,125]) :
  gZ s a c=(⟨3,0,[c],a⟩,a+1)/\dy c=false/\bq s a [47,42]=false:=by
 have hd:∀ c∈([40,41,91,93,44,59,123,125]:List UInt8),dO c=false/\small c=false/\dy c=false/\c≠47:=by decide
 obtain ⟨h1,h2,h3,h4⟩:=hd c hm
 have e1:∀ x,bq s a x=x.isPrefixOf (c::post):=fun x=>tD h ha
 have e2:bD.find? (bq s a)=bD.find? (fun x=>x.isPrefixOf (c::post)):=find_congr fun x _=>e1 x
 have key:∀ post:ae,∀ c∈([40,41,91,93,44,59,123,125]:List UInt8),bD.find? (fun x=>x.isPrefixOf (c::post))=some [c]:=by
  intro post c hc;simp only [List.mem_cons,List.not_mem_nil,or_false] at hc
  rcases hc with rfl | rfl | rfl | rfl | rfl | rfl | rfl | rfl <;> rfl
 refine ⟨?_,h3,?_⟩
 ·unfold gZ;rw [if_neg (by rw [h1];decide),if_neg (by rw [h2];decide),e2,key post c hm];rfl
 ·rw [e1];simp only [List.isPrefixOf]
  have:((47:UInt8)==c)=false:=by rw [beq_eq_false_iff_ne];exact fun h=>h4 h.symm
  rw [this,Bool.false_and]
end Go.Sp
namespace Go.Im
open Go.Xp Go.Sp
def kW:List ae:=[[105,110,116],[118,97,114],[102,117,110,99],[105,102],[101,108,115,101],[119,104,105,108,101],[114,101,116,117,114,110],[124,124],[38,38],[61,61],[33,61],[60,61],[62,61],[60,60],[62,62],[40],[41],[123],[125],[91],[93],[44],[59],[61],[60],[62],[43],[45],[42],[47],[37],[38],[124],[94],[33],[126]]
theorem w7:kW=words++bD:=by decide
def jj (s:ae):Bool:=kW.contains s
def jn:ae->Int->Int
 | [],n=>n
 | c::r,n=>if n<=2147483647 then jn r (10 * n+((c.toNat:Int) - 48)) else n
def b9 (s:ae) (a b:Nat):ae:=(s.take b).drop a
def fO (s:ae) (a:Nat) (k:Nat):Bool:=decide (a+k<=s.length)&&(match s[a]? with | some c=>!(small c) | none=>false)&&jj (b9 s a (a+k))
def fu (s:ae) (a:Nat):ae:=if fO s a 2=true then b9 s a (a+2) else if fO s a 1=true then b9 s a (a+1) else []
def jg (s:ae) (a:Nat):Nat:=run s dO (s.length+1) a
def pe:Tok:=⟨0,0,[],0⟩
def jG (s:ae) (a:Nat) (c:UInt8):Tok × Nat × Int :=
 if dO c=true then
  if jn (b9 s a (jg s a)) 0 > 2147483647 then (pe,a,3) else (⟨1,jn (b9 s a (jg s a)) 0,[],a⟩,jg s a,0)
 else if small c=true then (⟨if jj (eL s a)=true then 3 else 2,0,eL s a,a⟩,ej s a,0)
 else if fu s a=[] then (pe,a,2)
 else (⟨3,0,fu s a,a⟩,a+(fu s a).length,0)
def oS:ae->Option Nat
 | []=>none
 | b::l=>if List.isPrefixOf [42,47] (b::l) then some 0 else match oS l with | none=>none | some n=>some (n+1)
def l7 (s:ae):Nat->Nat->List Tok->Option (List Tok × Int × Int)
 | 0,_,_=>none
 | f+1,a,acc=>match s[a]? with
  | none=>some (acc,0,0)
  | some c =>
   if dy c=true then l7 s f (a+1) acc
   else if bq s a [47,42]=true then
    match oS (s.drop (a+2)) with
    | none=>some ([],4,a)
    | some n=>l7 s f (a+(n+4)) acc
   else if (jG s a c).2.2≠0 then some ([],(jG s a c).2.2,a)
   else l7 s f (jG s a c).2.1 (acc++[(jG s a c).1])
structure zh (t:Tok):Prop where
 num:t.kind=1->0<=t.n/\t.n<=2147483647/\t.s=[]
 name:t.kind=2->word t.s=true/\jj t.s=false
 sign:t.kind=3->jj t.s=true
 kinds:t.kind=1\/t.kind=2\/t.kind=3
theorem km {s:ae} {a b:Nat} (h:b<=s.length):(b9 s a b).length=b - a:=by
 unfold b9;rw [length_drop,length_take];omega
theorem og {s:ae} {a b:Nat} {c:UInt8} (h:s[a]?=some c) (hb:a < b) (hl:b<=s.length):b9 s a b=c::b9 s (a+1) b:=by
 unfold b9;have aq:=(List.getElem?_eq_some_iff.1 h).1
 have:(s.take b)[a]?=some c:=by rw [getElem?_take,if_pos hb];exact h
 have h2:=(List.getElem?_eq_some_iff.1 this);rw [List.drop_eq_getElem_cons h2.1,h2.2]
theorem Bd (s:ae) (p:UInt8->Bool):∀ (f a:Nat),a<=s.length->∀ c∈b9 s a (run s p f a),p c=true:=by
 intro f
 induction f with
 | zero =>
  intro a ha c hc;rw [Go.Sp.run] at hc
  have:(b9 s a a).length=0:=by rw [km ha];omega
  rw [eq_nil_of_length_eq_zero this] at hc;cases hc
 | succ f ih =>
  intro a ha c hc;rw [Go.Sp.run] at hc
  have Dy:∀ x:ae,x=b9 s a a->c∈x->p c=true:=fun x hx hm=>by
   have:(b9 s a a).length=0:=by rw [km ha];omega
   rw [hx,eq_nil_of_length_eq_zero this] at hm;cases hm
  cases hq:s[a]? with
  | none=>rw [hq] at hc;exact Dy _ rfl hc
  | some d =>
   rw [hq] at hc;simp only at hc;have aq:=(List.getElem?_eq_some_iff.1 hq).1
   by_cases hp:p d=true
   ·rw [if_pos hp] at hc
    have kO:a+1<=Go.Sp.run s p f (a+1)/\Go.Sp.run s p f (a+1)<=s.length:=by
     have:∀ (f a:Nat),a<=s.length->a<=Go.Sp.run s p f a/\Go.Sp.run s p f a<=s.length:=by
      intro f
      induction f with
      | zero=>intro a h;exact ⟨Nat.le_refl _,h⟩
      | succ f ih =>
       intro a h;rw [Go.Sp.run]
       cases hq:s[a]? with
       | none=>exact ⟨Nat.le_refl _,h⟩
       | some d =>
        simp only;split
        ·have:=ih (a+1) (List.getElem?_eq_some_iff.1 hq).1;omega
        ·exact ⟨Nat.le_refl _,h⟩
     exact this f (a+1) aq
    rw [og hq (by omega) kO.2] at hc
    rcases List.mem_cons.1 hc with rfl | hc
    ·exact hp
    ·exact ih (a+1) aq c hc
   ·rw [if_neg hp] at hc;exact Dy _ rfl hc
theorem G3:∀ (w:ae) (n:Int),0<=n->(∀ c∈w,dO c=true)->0<=jn w n
 | [],n,h,_=>h
 | c::r,n,h,hd=>by
  rw [jn];have hc:=hd c (mem_cons_self);simp only [dO,Bool.and_eq_true,decide_eq_true_eq] at hc;split
  ·exact G3 r _ (by omega) (fun c hc=>hd c (mem_cons_of_mem _ hc))
  ·exact h
theorem M2 {x:ae} (h:jj x=true):x≠[]:=by
 intro h0;subst h0;revert h;decide
theorem Ho {s:ae} {a:Nat} {c:UInt8} (hc:s[a]?=some c) (h0:(jG s a c).2.2=0):zh (jG s a c).1/\(jG s a c).1.at_=a/\a < (jG s a c).2.1/\(jG s a c).2.1<=s.length:=by
 have aq:=(List.getElem?_eq_some_iff.1 hc).1;unfold jG at h0 |-
 by_cases hd:dO c=true
 ·rw [if_pos hd] at h0 |-
  by_cases hn:jn (b9 s a (jg s a)) 0 > 2147483647
  ·rw [if_pos hn] at h0;cases h0
  ·rw [if_neg hn];obtain ⟨e1,e2,e3⟩:=oA s dO (s.length+1) a (by omega) (by omega)
   have x6:a < jg s a:=by
    rcases Nat.lt_or_ge a (jg s a) with h | h
    ·exact h
    ·have he:Go.Sp.run s dO (s.length+1) a=a:=by unfold jg at h;omega
     have:=e1 c (by rw [he];exact hc);rw [hd] at this;cases this
   refine ⟨⟨fun _=>⟨G3 _ _ (by decide) (Bd s dO _ a (by omega)),by simpa using hn,rfl⟩,fun h=>by simp at h,fun h=>by simp at h,.inl rfl⟩,rfl,x6,e3⟩
 ·rw [if_neg hd] at h0 |-
  by_cases hs:small c=true
  ·rw [if_pos hs];obtain ⟨e1,e2,e3⟩:=oA s dK (s.length+1) a (by omega) (by omega)
   have ur:dK c=true:=by simp [dK,hs]
   have x6:a < ej s a:=by
    rcases Nat.lt_or_ge a (ej s a) with h | h
    ·exact h
    ·have he:Go.Sp.run s dK (s.length+1) a=a:=by unfold ej at h;omega
     have:=e1 c (by rw [he];exact hc);rw [ur] at this;cases this
   have hw:word (eL s a)=true:=by
    have h1:eL s a=c::b9 s (a+1) (ej s a):=og hc x6 e3;have h2:=Bd s dK (s.length+1) a (by omega);unfold word;have h3:(eL s a).all dK=true:=List.all_eq_true.2 h2;rw [h3,h1];simp [hs]
   refine ⟨⟨fun h=>?_,fun h=>⟨hw,?_⟩,fun h=>?_,?_⟩,rfl,x6,e3⟩
   ·simp only at h;split at h <;> cases h
   ·simp only at h;split at h
    ·cases h
    ·rename_i hh;simpa using hh
   ·simp only at h;split at h
    ·assumption
    ·cases h
   ·simp only;split
    ·exact .inr (.inr rfl)
    ·exact .inr (.inl rfl)
  ·rw [if_neg hs] at h0 |-
   by_cases hg:fu s a=[]
   ·rw [if_pos hg] at h0;cases h0
   ·rw [if_neg hg]
    have key:jj (fu s a)=true/\a+(fu s a).length<=s.length:=by
     unfold fu at hg |-
     have aux:∀ k,fO s a k=true->jj (b9 s a (a+k))=true/\a+(b9 s a (a+k)).length<=s.length:=fun k h=>by
      simp only [fO,Bool.and_eq_true,decide_eq_true_eq] at h;refine ⟨h.2,?_⟩;rw [km h.1.1];have:=h.1.1;omega
     split
     ·exact aux 2 (by assumption)
     ·rename_i h2;rw [if_neg h2] at hg;split
      ·exact aux 1 (by assumption)
      ·rename_i h1;rw [if_neg h1] at hg;exact absurd rfl hg
    have hl:=List.length_pos_iff.2 (M2 key.1);exact ⟨⟨fun h=>by simp at h,fun h=>by simp at h,fun _=>key.1,.inr (.inr rfl)⟩,rfl,by simp only;omega,key.2⟩
theorem AW:∀ {l:ae} {n:Nat},oS l=some n->n+2<=l.length
 | [],n,h=>by cases h
 | b::l,n,h=>by
  rw [oS] at h;split at h
  ·rename_i hp;cases h
   cases l with
   | nil=>simp [List.isPrefixOf] at hp
   | cons d l=>simp
  ·cases hq:oS l with
   | none=>rw [hq] at h;cases h
   | some m=>rw [hq] at h;cases h;have:=AW hq;simp only [length_cons];omega
theorem qD (s:ae):∀ (f a:Nat) (acc:List Tok),a<=s.length->s.length < f+a->(∀ t∈acc,zh t)->(acc.Pairwise fun x y=>x.at_ < y.at_)->(∀ t∈acc,t.at_ < (a:Int))->acc.length<=a ->
  ∃ ts c z,l7 s f a acc=some (ts,c,z)/\(∀ t∈ts,zh t)/\(ts.Pairwise fun x y=>x.at_ < y.at_)/\ts.length<=s.length
 | 0,a,acc,h1,h2,_,_,_,_=>by omega
 | f+1,a,acc,h1,h2,h3,h4,h5,h6=>by
  rw [l7]
  cases hc:s[a]? with
  | none=>exact ⟨acc,0,0,rfl,h3,h4,by omega⟩
  | some c =>
   simp only;have aq:=(List.getElem?_eq_some_iff.1 hc).1;split
   ·exact qD s f (a+1) acc (by omega) (by omega) h3 h4 (fun t ht=>by have:=h5 t ht;omega) (by omega)
   ·split
    ·rename_i hb;have me:=iJ hb;simp only [length_cons,length_nil] at me
     cases hi:oS (s.drop (a+2)) with
     | none=>exact ⟨[],4,a,rfl,fun t h=>by simp at h,.nil,Nat.zero_le _⟩
     | some n =>
      have:=AW hi;rw [length_drop] at this;exact qD s f (a+(n+4)) acc (by omega) (by omega) h3 h4 (fun t ht=>by have:=h5 t ht;omega) (by omega)
    ·split
     ·exact ⟨[],_,a,rfl,fun t h=>by simp at h,.nil,Nat.zero_le _⟩
     ·rename_i h0;obtain ⟨k1,k2,k3,k4⟩:=Ho hc (by simpa using h0);refine qD s f _ _ k4 (by omega) (fun t ht=>?_) ?_ (fun t ht=>?_) (by rw [length_append];simp only [length_cons,length_nil];omega)
      ·rcases List.mem_append.1 ht with h | h
       ·exact h3 t h
       ·rw [mem_singleton] at h;subst h;exact k1
      ·rw [List.pairwise_append];refine ⟨h4,List.pairwise_singleton _ _,fun x hx y hy=>?_⟩;rw [mem_singleton] at hy;subst hy;rw [k2];exact h5 x hx
      ·rcases List.mem_append.1 ht with h | h
       ·have:=h5 t h;omega
       ·rw [mem_singleton] at h;subst h;rw [k2];omega
theorem yj (s:ae):∀ (f:Nat) (n:Int) (a:Nat),a<=s.length->s.length < f+a->jn (b9 s a (number s f n a).2) n=(number s f n a).1
 | 0,n,a,h1,h2=>by omega
 | f+1,n,a,h1,h2=>by
  have Dy:b9 s a a=[]:=eq_nil_of_length_eq_zero (by rw [km h1];omega);rw [number]
  cases hc:s[a]? with
  | none=>simp only;rw [Dy,jn]
  | some c =>
   simp only;have aq:=(List.getElem?_eq_some_iff.1 hc).1
   by_cases hd:dO c=true
   ·rw [if_pos hd];obtain ⟨e1,e2,e3⟩:=vB s f (if n<=2147483647 then n * 10+((c.toNat:Int) - 48) else n) (a+1) (by omega) (by omega);rw [og hc (by omega) e3,jn];have ih:=yj s f (if n<=2147483647 then n * 10+((c.toNat:Int) - 48) else n) (a+1) (by omega) (by omega)
    by_cases hn:n<=2147483647
    ·rw [if_pos hn] at ih |-;rw [if_pos hn,Int.mul_comm 10 n];exact ih
    ·rw [if_neg hn] at ih |-;rw [if_neg hn];rw [<-ih]
     cases hw:b9 s (a+1) (number s f n (a+1)).2 with
     | nil=>rw [jn]
     | cons d r=>rw [jn,if_neg hn]
   ·rw [if_neg hd];simp only;rw [Dy,jn]
theorem zY (s:ae):∀ (f:Nat) (n:Int) (a:Nat),(number s f n a).2=Go.Sp.run s dO f a
 | 0,n,a=>rfl
 | f+1,n,a=>by
  rw [number,Go.Sp.run]
  cases hc:s[a]? with
  | none=>rfl
  | some c =>
   simp only;split
   ·exact zY s f _ (a+1)
   ·rfl
theorem mU {s x:ae} {a:Nat}:bq s a x=(decide (a+x.length<=s.length)&&(b9 s a (a+x.length)==x)):=rfl
theorem IQ {s:ae} {a:Nat} {c:UInt8} (hc:s[a]?=some c) (hs:small c=false):fu s a=(match bD.find? (bq s a) with | some x=>x | none=>[]):=by
 have aq:=(List.getElem?_eq_some_iff.1 hc).1
 have h2:∀ x∈bD,x.length=1\/x.length=2:=by decide
 have zK:bD=bD.take 8++bD.drop 8:=(take_append_drop 8 bD).symm
 have jR:∀ x∈bD.take 8,x.length=2:=by decide
 have eP:∀ x∈bD.drop 8,x.length=1:=by decide
 have hw:∀ x∈words,∃ d r,x=d::r/\small d=true:=by
  intro x hx
  have:∀ x∈words,(match x with | d::_=>small d | []=>false)=true:=by decide
  have:=this x hx
  cases x with
  | nil=>cases this
  | cons d r=>exact ⟨d,r,rfl,this⟩
 have VO:∀ k,1<=k->a+k<=s.length->b9 s a (a+k)=c::b9 s (a+1) (a+k):=fun k h1 h2=>og hc (by omega) h2
 have dG:∀ k,1<=k->a+k<=s.length->(jj (b9 s a (a+k))=true↔b9 s a (a+k)∈bD):=fun k h1 h2=>by
  unfold jj;rw [w7,List.contains_iff_mem,List.mem_append];refine ⟨fun h=>h.resolve_left fun hm=>?_,.inr⟩;obtain ⟨d,r,e1,e2⟩:=hw _ hm;rw [VO k h1 h2] at e1
  cases e1;rw [hs] at e2;cases e2
 have Ia:∀ k,1<=k->(fO s a k=true↔a+k<=s.length/\b9 s a (a+k)∈bD):=fun k h1=>by
  unfold fO;rw [hc];simp only [hs,Bool.not_false,Bool.and_true,Bool.and_eq_true,decide_eq_true_eq];exact ⟨fun ⟨p,q⟩=>⟨p,(dG k h1 p).1 q⟩,fun ⟨p,q⟩=>⟨p,(dG k h1 p).2 q⟩⟩
 have AU:∀ k,1<=k->k<=2->a+k<=s.length->b9 s a (a+k)∈bD->(b9 s a (a+k)).length=k:=fun k _ _ h _=>by rw [km h];omega
 unfold fu
 by_cases t2:fO s a 2=true
 ·rw [if_pos t2];obtain ⟨p,q⟩:=(Ia 2 (by decide)).1 t2
  have hq:b9 s a (a+2)∈bD.take 8:=by
   rw [zK] at q
   rcases List.mem_append.1 q with h | h
   ·exact h
   ·have:=eP _ h;rw [km p] at this;omega
  rw [zK,List.find?_append]
  have:(bD.take 8).find? (bq s a)=some (b9 s a (a+2)):=by
   cases hf:(bD.take 8).find? (bq s a) with
   | none =>
    rw [find?_eq_none] at hf;have h1:=hf _ hq;rw [mU,km p,show a+(a+2 - a)=a+2 by omega] at h1;simp [p] at h1
   | some x =>
    have h1:=List.find?_some hf;have h3:=jR x (List.mem_of_find?_eq_some hf);rw [mU,h3] at h1;simp only [Bool.and_eq_true,beq_iff_eq] at h1;rw [h1.2]
  rw [this];rfl
 ·rw [if_neg t2]
  have V4:(bD.take 8).find? (bq s a)=none:=by
   rw [find?_eq_none];intro x hx hb;rw [mU,jR x hx] at hb;simp only [Bool.and_eq_true,beq_iff_eq,decide_eq_true_eq] at hb;exact t2 ((Ia 2 (by decide)).2 ⟨hb.1,by rw [hb.2];exact List.mem_of_mem_take hx⟩)
  rw [zK,List.find?_append,V4]
  by_cases t1:fO s a 1=true
  ·rw [if_pos t1];obtain ⟨p,q⟩:=(Ia 1 (by decide)).1 t1
   have hq:b9 s a (a+1)∈bD.drop 8:=by
    rw [zK] at q
    rcases List.mem_append.1 q with h | h
    ·have:=jR _ h;rw [km p] at this;omega
    ·exact h
   have:(bD.drop 8).find? (bq s a)=some (b9 s a (a+1)):=by
    cases hf:(bD.drop 8).find? (bq s a) with
    | none =>
     rw [find?_eq_none] at hf;have h1:=hf _ hq;rw [mU,km p,show a+(a+1 - a)=a+1 by omega] at h1;simp [p] at h1
    | some x =>
     have h1:=List.find?_some hf;have h3:=eP x (List.mem_of_find?_eq_some hf);rw [mU,h3] at h1;simp only [Bool.and_eq_true,beq_iff_eq] at h1;rw [h1.2]
   rw [this];rfl
  ·rw [if_neg t1]
   have:(bD.drop 8).find? (bq s a)=none:=by
    rw [find?_eq_none];intro x hx hb;rw [mU,eP x hx] at hb;simp only [Bool.and_eq_true,beq_iff_eq,decide_eq_true_eq] at hb;exact t1 ((Ia 1 (by decide)).2 ⟨hb.1,by rw [hb.2];exact List.mem_of_mem_drop hx⟩)
   rw [this];rfl
theorem QE {s:ae} {a a':Nat} {c:UInt8} {t:Tok} (hc:s[a]?=some c) (h:gZ s a c=(t,a')) (hk:t.kind=1\/t.kind=2\/t.kind=3) (hn:t.n<=2147483647):jG s a c=(t,a',0):=by
 have aq:=(List.getElem?_eq_some_iff.1 hc).1;unfold gZ at h;unfold jG
 by_cases hd:dO c=true
 ·rw [if_pos hd] at h |-;cases h;have e1:jg s a=(number s (s.length+1) 0 a).2:=(zY s _ 0 a).symm;rw [e1,yj s _ 0 a (by omega) (by omega),if_neg (by simpa using hn)]
 ·rw [if_neg hd] at h |-
  by_cases hs:small c=true
  ·rw [if_pos hs] at h |-;cases h
   have DH:∃ r,eL s a=c::r\/eL s a=[]:=by
    cases hw:eL s a with
    | nil=>exact ⟨[],.inr rfl⟩
    | cons d r =>
     obtain ⟨e1,e2,e3⟩:=oA s dK (s.length+1) a (by omega) (by omega)
     have ur:dK c=true:=by simp [dK,hs]
     have x6:a < ej s a:=by
      rcases Nat.lt_or_ge a (ej s a) with h | h
      ·exact h
      ·have he:Go.Sp.run s dK (s.length+1) a=a:=by unfold ej at h;omega
       have:=e1 c (by rw [he];exact hc);rw [ur] at this;cases this
     have h1:eL s a=c::b9 s (a+1) (ej s a):=og hc x6 e3;rw [hw] at h1;cases h1;exact ⟨_,.inl rfl⟩
   have dG:jj (eL s a)=words.contains (eL s a):=by
    unfold jj;rw [w7]
    have zH:∀ x∈bD,(match x with | d::_=>small d | []=>true)=false:=by decide
    obtain ⟨r,h1⟩:=DH
    have:bD.contains (eL s a)=false:=by
     cases lk:bD.contains (eL s a) with
     | false=>rfl
     | true =>
      have:=zH _ (List.contains_iff_mem.1 lk)
      rcases h1 with h1 | h1 <;> rw [h1] at this <;> simp only at this
      ·rw [hs] at this;cases this
      ·cases this
    rw [Bool.eq_iff_iff,List.contains_iff_mem,List.mem_append,<-List.contains_iff_mem (as:=bD),this];simp
   rw [dG]
  ·rw [if_neg hs] at h |-;rw [IQ hc (by simpa using hs)]
   cases hf:bD.find? (bq s a) with
   | none=>rw [hf] at h;cases h;simp at hk
   | some x =>
    rw [hf] at h;cases h;simp only;have hx:=List.mem_of_find?_eq_some hf
    have bO:x≠[]:=by
     intro h0;subst h0;revert hx;decide
    rw [if_neg bO]
theorem P1 {s:ae} {a b:Nat} {ts:List Tok} (h:Tz s a ts b):b=s.length->∀ (f:Nat) (acc:List Tok),s.length < f+a->l7 s f a acc=some (acc++ts,0,0):=by
 induction h with
 | nil a =>
  intro hb f acc hf
  cases f with
  | zero=>omega
  | succ f =>
   rw [l7];have:s[a]?=none:=List.getElem?_eq_none_iff.2 (by omega);rw [this];simp
 | blank hc me h ih =>
  intro hb f acc hf
  cases f with
  | zero=>have:=(List.getElem?_eq_some_iff.1 hc).1;omega
  | succ f =>
   rw [l7,hc];simp only;rw [if_pos me];exact ih hb f acc (by omega)
 | tok hc me hr ht hk hn ha h ih =>
  intro hb f acc hf
  cases f with
  | zero=>have:=(List.getElem?_eq_some_iff.1 hc).1;omega
  | succ f =>
   rw [l7,hc];simp only;rw [if_neg (by rw [me];decide),if_neg (by rw [hr];decide),QE hc ht hk hn];simp only [ne_eq,not_true_eq_false,if_false];rw [ih hb f _ (by omega)];simp
end Go.Im
namespace Go.Im
open Go.Xp Go.Sp
abbrev qs (ts:List Tok):Prop:=∀ t∈ts,zh t
def EF (t:T):Prop:=∃ a:E,a.ok=true/\er t=a.tree
def Jb (l:List T):Prop:=∃ es:List E,E.cB es=true/\aI l=E.trees es
def Sf (ts r:List Tok) (n:Nat):Prop:=∃ pre,ts=pre++r/\n<=pre.length
theorem Sf.nil (ts:List Tok):Sf ts ts 0:=⟨[],rfl,Nat.zero_le _⟩
theorem Sf.one (t:Tok) (ts:List Tok):Sf (t::ts) ts 1:=⟨[t],rfl,Nat.le_refl _⟩
theorem Sf.trans {a b c:List Tok} {n m:Nat} (h:Sf a b n) (k:Sf b c m):Sf a c (n+m):=by
 obtain ⟨p,rfl,h⟩:=h;obtain ⟨q,rfl,k⟩:=k;exact ⟨p++q,by simp,by rw [length_append];omega⟩
theorem Sf.le {a b:List Tok} {n m:Nat} (h:Sf a b n) (k:m<=n):Sf a b m:=by
 obtain ⟨p,rfl,h⟩:=h;exact ⟨p,rfl,by omega⟩
theorem Sf.ok {a b:List Tok} {n:Nat} (h:Sf a b n) (k:qs a):qs b:=by
 obtain ⟨p,rfl,h⟩:=h
 exact fun t ht=>k t (List.mem_append_right _ ht)
theorem Sf.aE {e:Int} {s:ae} {ts r:List Tok} (hs:s≠[]) (h:aE e s ts=.ok r):Sf ts r 1:=by
 obtain ⟨u,rfl,_⟩:=vw hs h;exact .one u r
theorem Sf.sign {s:ae} {ts:List Tok} (hs:s≠[]) (h:sign ts 0=s):Sf ts ts.tail 1:=by
 obtain ⟨u,h1,_⟩:=sA hs h;rw [h1];exact .one u _
theorem NG {s:ae} (h:jj s=false):words.contains s=false:=by
 unfold jj at h;rw [w7] at h
 cases hc:words.contains s with
 | false=>rfl
 | true =>
  rw [List.contains_iff_mem] at hc
  have:(words++bD).contains s=true:=by rw [List.contains_iff_mem];exact List.mem_append_left _ hc
  rw [h] at this;cases this
theorem T9 {t:Tok} (h:zh t) (hk:t.kind=2) (hl:t.s.length<=12):bg t.s=true:=by
 obtain ⟨h1,h2⟩:=h.name hk;unfold bg;rw [h1,NG h2];simpa using hl
theorem Sf.name {e:Int} {s:ae} {ts r:List Tok} (h:name e ts=.ok (s,r)) (ho:qs ts):Sf ts r 1/\bg s=true:=by
 obtain ⟨u,rfl,h1,rfl,h3⟩:=D1 h;exact ⟨.one u r,T9 (ho u mem_cons_self) h1 h3⟩
theorem Pj {s:ae} {k:Nat} (h:s∈levels.getD k []):ei s=true:=by
 unfold ei;rw [any_eq_true];rw [List.getD_eq_getElem?_getD] at h
 cases hk:levels[k]? with
 | none=>rw [hk] at h;simp at h
 | some l =>
  rw [hk] at h;exact ⟨l,mem_of_getElem? hk,by rw [List.contains_iff_mem];exact h⟩
theorem iu (k a:Int) (s:ae) (l:List T):aD (one k a s l)=ay l+1:=by unfold one;rw [aD]
theorem Jb.snoc {l:List T} {t:T} (h:Jb l) (k:EF t):Jb (l++[t]):=by
 obtain ⟨es,h1,h2⟩:=h;obtain ⟨a,h3,h4⟩:=k
 have key:∀ es:List E,E.cB es=true->E.cB (es++[a])=true/\E.trees (es++[a])=E.trees es++[a.tree]:=by
  intro es
  induction es with
  | nil=>intro _;simp [E.cB,E.trees,h3]
  | cons b es ih =>
   intro h;simp only [E.cB,Bool.and_eq_true] at h;obtain ⟨k1,k2⟩:=ih h.2;simp only [cons_append,E.cB,E.trees,k1,k2,h.1];simp
 obtain ⟨k1,k2⟩:=key es h1;exact ⟨es++[a],k1,by rw [F6,h2,k2,aI,aI,h4]⟩
def uA:nE->Nat
 | .loop _ _ out=>aD out
 | _=>0
def X9:nE->Prop
 | .loop _ _ out=>EF out
 | _=>True
theorem Qe (e:Int):∀ f,(∀ j ts t r,qs ts->X9 j->rd e f j ts=.ok (t,r)->EF t/\∃ n,Sf ts r n/\aD t<=n+uA j) /\
  (∀ d acc ts l r,qs ts->Jb acc->rd.args e f d acc ts=.ok (l,r)->Jb l/\∃ n,Sf ts r n/\ay l+1<=n+ay acc):=by
 intro f
 induction f with
 | zero=>exact ⟨fun j ts t r _ _ h=>by simp [rd] at h,fun d acc ts l r _ _ h=>by simp [rd.args] at h⟩
 | succ f ih =>
  obtain ⟨ih,wL⟩:=ih;refine ⟨fun j ts t r ho hj h=>?_,fun d acc ts l r ho hj h=>?_⟩
  ·cases j with
   | expr d =>
    rw [rd] at h;split at h
    ·cases h
    ·exact ih (.level 0 (d+1)) ts t r ho trivial h
   | level k d =>
    rw [rd] at h;split at h
    ·exact ih (.operand d) ts t r ho trivial h
    ·split at h
     ·cases h
     ·rename_i out gV hx;obtain ⟨h1,n,h2,h3⟩:=ih (.level (k+1) d) ts out gV ho trivial hx;obtain ⟨k1,m,k2,k3⟩:=ih (.loop k d out) gV t r (h2.ok ho) h1 h;exact ⟨k1,n+m,h2.trans k2,by simp only [uA] at *;omega⟩
   | loop k d out =>
    cases ts with
    | nil=>rw [rd] at h;cases h;exact ⟨hj,0,.nil _,by simp only [uA];omega⟩
    | cons t0 r0 =>
     rw [rd] at h;split at h
     ·rename_i hc;split at h
      ·cases h
      ·rename_i b r1 hx;obtain ⟨⟨b',h0,h1⟩,n,h2,h3⟩:=ih (.level (k+1) d) r0 b r1 (fun t ht=>ho t (mem_cons_of_mem _ ht)) trivial hx;obtain ⟨o',h4,h5⟩:=hj;have h6:=(Sf.one t0 r0).trans h2;obtain ⟨k1,m,k2,k3⟩:=ih (.loop k d (one 6 t0.at_ t0.s [out,b])) r1 t r (h6.ok ho) ⟨.bin t0.s o' b',by simp only [E.ok,Pj hc.2,h4,h0];rfl,by rw [dB,aI,aI,aI,h5,h1,E.tree]⟩ h;refine ⟨k1,_,h6.trans k2,?_⟩;simp only [uA,iu,ay] at *;omega
     ·cases h;exact ⟨hj,0,.nil _,by simp only [uA];omega⟩
   | operand d =>
    cases ts with
    | nil =>
     rw [rd] at h;split at h <;> cases h
    | cons t0 r0 =>
     rw [rd] at h;split at h
     ·cases h
     ·have US:qs r0:=fun t ht=>ho t (mem_cons_of_mem _ ht)
      have ux:=Sf.one t0 r0;split at h
      ·split at h
       ·rename_i hu;split at h
        ·cases h
        ·rename_i a r1 hx;cases h;obtain ⟨⟨a',h0,h1⟩,n,h2,h3⟩:=ih (.operand (d+1)) r0 a r US trivial hx;refine ⟨⟨.un t0.s a',?_,by rw [dB,aI,aI,h1,E.tree]⟩,_,ux.trans h2,?_⟩
         ·simp only [E.ok,h0]
          rcases hu with hu | hu | hu <;> simp [hu]
         ·simp only [uA,iu,ay] at *;omega
       ·split at h
        ·split at h
         ·cases h
         ·rename_i a r1 hx;split at h
          ·cases h
          ·rename_i r2 hm;cases h;obtain ⟨h1,n,h2,h3⟩:=ih (.expr (d+1)) r0 t r1 US trivial hx;exact ⟨h1,_,(ux.trans h2).trans (Sf.aE (by decide) hm),by simp only [uA] at *;omega⟩
        ·cases h
      ·split at h
       ·rename_i hk;cases h;obtain ⟨k1,k2,k3⟩:=(ho t0 mem_cons_self).num hk;exact ⟨⟨.num t0.n,by simp only [E.ok];simp [k1,k2],by rw [er,aI,E.tree]⟩,1,ux,by simp only [uA,aD,ay];omega⟩
       ·split at h
        ·cases h
        ·rename_i s r1 ef;obtain ⟨k1,k2⟩:=Sf.name ef ho;split at h
         ·rename_i hb;have k3:=k1.trans (Sf.sign (by decide) hb);split at h
          ·cases h
          ·rename_i a r2 hx;split at h
           ·cases h
           ·rename_i r3 hm;cases h;obtain ⟨⟨a',h0,h1⟩,n,h2,h3⟩:=ih (.expr (d+1)) _ a r2 (k3.ok ho) trivial hx;refine ⟨⟨.at_ s a',by simp only [E.ok,k2,h0];rfl,by rw [dB,aI,aI,h1,E.tree]⟩,_,(k3.trans h2).trans (Sf.aE (by decide) hm),?_⟩;simp only [uA,iu,ay] at *;omega
         ·split at h
          ·rename_i hb;have k3:=k1.trans (Sf.sign (by decide) hb);split at h
           ·cases h
           ·rename_i l r2 hx;cases h;obtain ⟨⟨es,h0,h1⟩,n,h2,h3⟩:=wL _ _ _ l r (k3.ok ho) ⟨[],rfl,rfl⟩ hx;refine ⟨⟨.call s es,by simp only [E.ok,k2,h0];rfl,by rw [dB,h1,E.tree]⟩,_,k3.trans h2,?_⟩;simp only [uA,iu,ay] at *;omega
          ·cases h;exact ⟨⟨.name s,by simp only [E.ok,k2],by rw [dB,aI,E.tree]⟩,1,k1,by simp only [uA,iu,ay];omega⟩
  ·rw [rd.args] at h;split at h
   ·rename_i hc;cases h;exact ⟨hj,1,Sf.sign (by decide) hc,by omega⟩
   ·split at h
    ·cases h
    ·rename_i xa hx
     have h0:Sf ts xa 0:=by
      split at hx
      ·cases hx;exact .nil _
      ·exact (Sf.aE (by decide) hx).le (Nat.zero_le _)
     split at h
     ·cases h
     ·rename_i a uY hy;obtain ⟨h1,n,h2,h3⟩:=ih (.expr d) xa a uY (h0.ok ho) trivial hy;have h4:=h0.trans h2;obtain ⟨k1,m,k2,k3⟩:=wL _ (acc++[a]) uY l r (h4.ok ho) (hj.snoc h1) h;refine ⟨k1,_,h4.trans k2,?_⟩;simp only [uA,lV,ay] at *;omega
theorem we {e:Int} {d:Nat} {ts r:List Tok} {t:T} (ho:qs ts) (h:expr e d ts=.ok (t,r)):EF t/\Sf ts r (aD t):=by
 obtain ⟨h1,n,h2,h3⟩:=(Qe e _).1 (.expr d) ts t r ho trivial h;exact ⟨h1,h2.le (by simpa [uA] using h3)⟩
theorem vl {e:Int} {d:Nat} {a b:ae} {ts r:List Tok} {t:T} (ha:a≠[]) (hb:b≠[]) (ho:qs ts) (h:inner e d a b ts=.ok (t,r)):EF t/\Sf ts r (aD t+2):=by
 unfold inner at h;split at h
 ·cases h
 ·rename_i xa h1;have k1:=Sf.aE ha h1;split at h
  ·cases h
  ·rename_i t' uY h2;obtain ⟨k2,k3⟩:=we (k1.ok ho) h2;split at h
   ·cases h
   ·rename_i Zt h3;cases h;exact ⟨k2,((k1.trans k3).trans (Sf.aE hb h3)).le (by omega)⟩
theorem Af {e:Int} {d:Nat} {ts r:List Tok} {s:ae} {t:T} (ho:qs ts) (h:kc e d ts=.ok ((s,t),r)):bg s=true/\EF t/\Sf ts r (aD t+3):=by
 unfold kc at h;split at h
 ·cases h
 ·rename_i s' xa h1;obtain ⟨k1,k2⟩:=Sf.name h1 ho;split at h
  ·cases h
  ·rename_i t' uY h2;cases h;obtain ⟨k3,k4⟩:=vl (by decide) (by decide) (k1.ok ho) h2;exact ⟨k2,k3,(k1.trans k4).le (by omega)⟩
def SF (t:T):Prop:=∃ a:S,a.ok=true/\er t=a.tree
def Jk (l:List T):Prop:=∃ es:List S,S.cB es=true/\aI l=S.trees es
def BF (t:T):Prop:=∃ l:List S,S.cB l=true/\er t=bB l
theorem Jk.snoc {l:List T} {t:T} (h:Jk l) (k:SF t):Jk (l++[t]):=by
 obtain ⟨es,h1,h2⟩:=h;obtain ⟨a,h3,h4⟩:=k
 have key:∀ es:List S,S.cB es=true->S.cB (es++[a])=true/\S.trees (es++[a])=S.trees es++[a.tree]:=by
  intro es
  induction es with
  | nil=>intro _;simp [S.cB,S.trees,h3]
  | cons b es ih =>
   intro h;simp only [S.cB,Bool.and_eq_true] at h;obtain ⟨k1,k2⟩:=ih h.2;simp only [cons_append,S.cB,S.trees,k1,k2,h.1];simp
 obtain ⟨k1,k2⟩:=key es h1;exact ⟨es++[a],k1,by rw [F6,h2,k2,aI,aI,h4]⟩
theorem Ny {t:T} (h:EF t) (hk:t.n.kind=3):∃ (s:ae) (a:T),t.kids=[a]/\t.n.s=s/\bg s=true/\EF a:=by
 obtain ⟨a,h1,h2⟩:=h;have h3:=congrArg (fun x=>x.n.kind) h2;simp only [wb,hk] at h3
 cases a with
 | at_ s b =>
  simp only [E.ok,Bool.and_eq_true] at h1
  have h4:t.n.s=s:=by have:=congrArg (fun x=>x.n.s) h2;simp only [wb] at this;exact this
  have h5:aI t.kids=[b.tree]:=by rw [<-Pz,h2];rfl
  match hl:t.kids,h5 with
  | [x],h5 =>
   rw [aI,aI] at h5
   injection h5 with h6
   exact ⟨s,x,rfl,h4,h1.1,b,h1.2,h6⟩
  | [],h5=>rw [aI] at h5;cases h5
  | x::y::r,h5=>rw [aI,aI] at h5;injection h5 with h6 h7;cases h7
 | num n=>simp [E.tree,T.n] at h3
 | name n=>simp [E.tree,T.n] at h3
 | call s l=>simp [E.tree,T.n] at h3
 | un s a=>simp [E.tree,T.n] at h3
 | bin s a b=>simp [E.tree,T.n] at h3
theorem FD {e:Int} {d:Nat} {ts r:List Tok} {t:T} (ho:qs ts) (h:simple e d ts=.ok (t,r)):SF t/\Sf ts r (aD t):=by
 unfold simple at h;split at h
 ·split at h <;> cases h
 ·rename_i t0 r0;split at h
  ·split at h
   ·cases h
   ·rename_i s a xa h1;cases h;obtain ⟨k1,⟨a',k2,k3⟩,k4⟩:=Af ho h1;exact ⟨⟨.set s a',by simp only [S.ok,k1,k2];rfl,by rw [dB,aI,aI,k3,S.tree]⟩,k4.le (by simp only [iu,ay];omega)⟩
  ·split at h
   ·cases h
   ·rename_i a xa h1;obtain ⟨k1,k2⟩:=we ho h1;split at h
    ·rename_i hc;split at h
     ·cases h
     ·rename_i v uY h2;cases h;obtain ⟨⟨v',k3,k4⟩,k5⟩:=vl (by decide) (by decide) (k2.ok ho) h2;obtain ⟨s,x,k6,k7,k8,x',k9,Yb⟩:=Ny k1 hc.1;have hz:=eh a;rw [k6] at hz;simp only [ay] at hz;rw [k6];refine ⟨⟨.put s x' v',by simp only [S.ok,k8,k9,k3];rfl,?_⟩,(k2.trans k5).le ?_⟩
      ·rw [dB,k7];simp only [take_succ_cons,take_zero,cons_append,nil_append,aI,Yb,k4,S.tree]
      ·simp only [take_succ_cons,take_zero,cons_append,nil_append,iu,ay];omega
    ·split at h
     ·cases h
     ·rename_i uY h2;cases h;obtain ⟨a',k3,k4⟩:=k1;exact ⟨⟨.do_ a',by simp only [S.ok,k3],by rw [dB,aI,aI,k4,S.tree]⟩,(k2.trans (Sf.aE (by decide) h2)).le (by simp only [iu,ay];omega)⟩
theorem Qh (e:Int):∀ f,(∀ d ts t r,qs ts->rs e f (.block d) ts=.ok (t,r)->BF t/\Sf ts r (aD t))/\(∀ d ts t r,qs ts->rs e f (.stmt d) ts=.ok (t,r)->SF t/\Sf ts r (aD t)) /\
  (∀ d acc ts l r,qs ts->Jk acc->rs.body e f d acc ts=.ok (l,r)->Jk l/\∃ n,Sf ts r n/\ay l+1<=n+ay acc):=by
 intro f
 induction f with
 | zero=>exact ⟨fun d ts t r _ h=>by simp [rs] at h,fun d ts t r _ h=>by simp [rs] at h,fun d acc ts l r _ _ h=>by simp [rs.body] at h⟩
 | succ f ih =>
  obtain ⟨Vb,X6,Vc⟩:=ih;refine ⟨fun d ts t r ho h=>?_,fun d ts t r ho h=>?_,fun d acc ts l r ho hj h=>?_⟩
  ·rw [rs] at h;split at h
   ·cases h
   ·split at h
    ·cases h
    ·rename_i r1 h1;have k1:=Sf.aE (by decide) h1;split at h
     ·cases h
     ·rename_i l r2 h2;cases h;obtain ⟨⟨es,k2,k3⟩,n,k4,k5⟩:=Vc _ [] r1 l r (k1.ok ho) ⟨[],rfl,rfl⟩ h2;exact ⟨⟨es,k2,by rw [dB,k3,bB]⟩,(k1.trans k4).le (by simp only [iu,ay] at *;omega)⟩
  ·rw [rs] at h;split at h
   ·cases h
   ·simp only at h;split at h
    ·rename_i hs;have k0:=Sf.sign (by decide) hs;split at h
     ·cases h
     ·rename_i s a xa h1;cases h;obtain ⟨k1,⟨a',k2,k3⟩,k4⟩:=Af (k0.ok ho) h1;exact ⟨⟨.var s a',by simp only [S.ok,k1,k2];rfl,by rw [dB,aI,aI,k3,S.tree]⟩,(k0.trans k4).le (by simp only [iu,ay];omega)⟩
    ·split at h
     ·rename_i hs
      have k0:Sf ts ts.tail 1:=by
       rcases hs with hs | hs
       ·exact Sf.sign (by decide) hs
       ·exact Sf.sign (by decide) hs
      split at h
      ·cases h
      ·rename_i c r1 h1;obtain ⟨⟨c',k1,k2⟩,k3⟩:=vl (by decide) (by decide) (k0.ok ho) h1;have k4:=k0.trans k3;split at h
       ·cases h
       ·rename_i b r2 h2;obtain ⟨⟨lb,k5,k6⟩,k7⟩:=Vb _ _ b r2 (k4.ok ho) h2;have k8:=k4.trans k7;split at h
        ·split at h
         ·rename_i dP;have k9:=k8.trans (Sf.sign (by decide) dP);split at h
          ·cases h
          ·rename_i b2 r3 h3;cases h;obtain ⟨⟨Yi,j5,j6⟩,j7⟩:=Vb _ _ b2 r (k9.ok ho) h3;refine ⟨⟨.if2 c' lb Yi,by simp only [S.ok,k1,k5,j5];rfl,?_⟩,(k9.trans j7).le (by simp only [iu,ay];omega)⟩;rw [dB,aI,aI,aI,aI,k2,k6,j6,S.tree,bB,bB]
         ·cases h;refine ⟨⟨.if1 c' lb,by simp only [S.ok,k1,k5];rfl,?_⟩,k8.le (by simp only [iu,ay];omega)⟩;rw [dB,aI,aI,aI,k2,k6,S.tree,bB]
        ·cases h;refine ⟨⟨.while_ c' lb,by simp only [S.ok,k1,k5];rfl,?_⟩,k8.le (by simp only [iu,ay];omega)⟩;rw [dB,aI,aI,aI,k2,k6,S.tree,bB]
     ·split at h
      ·rename_i hs;have k0:=Sf.sign (by decide) hs;split at h
       ·cases h
       ·rename_i a xa h1;obtain ⟨⟨a',k1,k2⟩,k3⟩:=we (k0.ok ho) h1;split at h
        ·cases h
        ·rename_i uY h2;cases h;exact ⟨⟨.ret a',by simp only [S.ok,k1],by rw [dB,aI,aI,k2,S.tree]⟩,((k0.trans k3).trans (Sf.aE (by decide) h2)).le (by simp only [iu,ay];omega)⟩
      ·exact FD ho h
  ·rw [rs.body] at h;split at h
   ·rename_i hc;cases h;exact ⟨hj,1,Sf.sign (by decide) hc,by omega⟩
   ·split at h
    ·cases h
    ·rename_i a xa h1;obtain ⟨k1,k2⟩:=X6 _ ts a xa ho h1;obtain ⟨k3,m,k4,k5⟩:=Vc _ (acc++[a]) xa l r (k2.ok ho) (hj.snoc k1) h;refine ⟨k3,_,k2.trans k4,?_⟩;simp only [lV,ay] at *;omega
theorem HJ {e:Int} {d:Nat} {ts r:List Tok} {t:T} (ho:qs ts) (h:block e d ts=.ok (t,r)):BF t/\Sf ts r (aD t):=(Qh e _).1 _ ts t r ho h
end Go.Im
namespace Go.Sp
open Go.Xp
def dR (x:ae) (l:List K):Prop:=∀ pre post:ae,∃ ts,ts.map kf=l/\Tz (pre++(x++post)) pre.length ts (pre.length+x.length)
def fS (x:ae) (l:List K):Prop:=∀ pre post:ae,Sep post->∃ ts,ts.map kf=l/\Tz (pre++(x++post)) pre.length ts (pre.length+x.length)
theorem dR.s {x:ae} {l:List K} (h:dR x l):fS x l:=fun pre post _=>h pre post
theorem dR.app {x y:ae} {l m:List K} (h:dR x l) (k:dR y m):dR (x++y) (l++m):=by
 intro pre post;obtain ⟨ts,h1,h2⟩:=h pre (y++post);obtain ⟨us,h3,h4⟩:=k (pre++x) post;refine ⟨ts++us,by simp [h1,h3],?_⟩;rw [append_assoc] at h4 |-;rw [length_append] at h4 |-;rw [<-Nat.add_assoc];exact h2.app h4
theorem dR.apps {x y:ae} {l m:List K} (h:dR x l) (k:fS y m):fS (x++y) (l++m):=by
 intro pre post hp;obtain ⟨ts,h1,h2⟩:=h pre (y++post);obtain ⟨us,h3,h4⟩:=k (pre++x) post hp;refine ⟨ts++us,by simp [h1,h3],?_⟩;rw [append_assoc] at h4 |-;rw [length_append] at h4 |-;rw [<-Nat.add_assoc];exact h2.app h4
theorem fS.CY {x y:ae} {l m:List K} (h:fS x l) (k:dR y m) (hs:∀ post,Sep (y++post)):dR (x++y) (l++m):=by
 intro pre post;obtain ⟨ts,h1,h2⟩:=h pre (y++post) (hs post);obtain ⟨us,h3,h4⟩:=k (pre++x) post;refine ⟨ts++us,by simp [h1,h3],?_⟩;rw [append_assoc] at h4 |-;rw [length_append] at h4 |-;rw [<-Nat.add_assoc];exact h2.app h4
theorem dR.nil:dR [] []:=fun pre post=>⟨[],rfl,.nil _⟩
theorem w5 {c:UInt8} {x:ae} (h:c∈Bf):∀ post,Sep (c::x++post):=fun post d hd=>by cases hd;exact h
theorem rL {pre x:ae}:(pre++x).drop pre.length=x:=drop_left
theorem Tz.one {s:ae} {a a':Nat} {c:UInt8} {t:Tok} (hc:s[a]?=some c) (hb:dy c=false) (hr:bq s a [47,42]=false) (ht:gZ s a c=(t,a')) (hk:t.kind=1\/t.kind=2\/t.kind=3) (hn:t.n<=2147483647) (ha:a < a'):Tz s a [t] a' :=
 .tok hc hb hr ht hk hn ha (.nil _)
theorem wU {c:UInt8} (h:dy c=true):dR [c] []:=by
 intro pre post;have hd:(pre++([c]++post)).drop pre.length=c::post:=rL;obtain ⟨h1,_,_⟩:=lS hd;exact ⟨[],rfl,.blank h1 h (.nil _)⟩
theorem lC {c:UInt8} (hm:c∈[40,41,91,93,44,59,123,125]):dR [c] [kS [c]]:=by
 intro pre post;have hd:(pre++([c]++post)).drop pre.length=c::post:=rL;obtain ⟨h1,_,h4⟩:=lS hd;obtain ⟨h2,h3,h5⟩:=MK (Nat.le_of_lt h4) hd hm;exact ⟨[_],rfl,Tz.one h1 h3 h5 h2 (by simp) (by simp) (by simp)⟩
theorem yS {w:ae} (hm:w∈bD):fS w [kS w]:=by
 intro pre post hp;have hd:(pre++(w++post)).drop pre.length=w++post:=rL
 have bO:w≠[]:=by rintro rfl;revert hm;decide
 obtain ⟨c,r,hw⟩:=List.exists_cons_of_ne_nil bO;have dk:=hd;rw [hw,cons_append] at dk;obtain ⟨h1,_,h4⟩:=lS dk;rw [<-cons_append,<-hw] at h1 h4;obtain ⟨h2,h3,h5⟩:=NI (Nat.le_of_lt h4) hd hw hm hp
 have:0 < w.length:=by rw [hw];simp
 exact ⟨[_],rfl,Tz.one h1 h3 h5 h2 (by simp) (by simp) (by omega)⟩
theorem FE {c:UInt8} (h:small c=true):dy c=false/\c≠47:=by
 simp only [small,Bool.and_eq_true] at h;have h1:=of_decide_eq_true h.1;refine ⟨?_,fun h0=>?_⟩
 ·simp only [dy,Bool.or_eq_false_iff,beq_eq_false_iff_ne];omega
 ·subst h0;revert h1;decide
theorem B6 {s r:ae} {a:Nat} {c:UInt8} (h:s.drop a=c::r) (hc:c≠47):bq s a [47,42]=false:=by
 obtain ⟨_,_,h4⟩:=lS h;rw [tD h (Nat.le_of_lt h4)];simp only [List.isPrefixOf]
 have:((47:UInt8)==c)=false:=by rw [beq_eq_false_iff_ne];exact fun h=>hc h.symm
 rw [this,Bool.false_and]
theorem DU {w:ae} (hw:word w=true):fS w [if words.contains w then kS w else kN w]:=by
 intro pre post hp;have hd:(pre++(w++post)).drop pre.length=w++post:=rL;simp only [word,Bool.and_eq_true,all_eq_true] at hw
 match w,hw,hd with
 | [],hw,_=>simp at hw
 | c::r,hw,hd =>
  obtain ⟨aM,hs⟩:=hw;have dk:=hd;rw [cons_append] at dk;obtain ⟨h1,_,h4⟩:=lS dk;obtain ⟨h3,h5⟩:=FE hs;have ht:=N7 (Nat.le_of_lt h4) hd rfl hs aM hp.dK;refine ⟨[_],?_,Tz.one h1 h3 (B6 dk h5) ht ?_ (by simp) (by simp)⟩
  ·simp only [List.map_cons,List.map_nil,kf,kS,kN];split <;> rfl
  ·simp only;split <;> simp
theorem jl {w:ae} (hw:bg w=true):fS w [kN w]:=by
 simp only [bg,Bool.and_eq_true,Bool.not_eq_true'] at hw;have:=DU hw.1.1;rw [if_neg (by rw [hw.2];decide)] at this;exact this
theorem K9 {w:ae} (hw:w∈words):fS w [kS w]:=by
 have h1:∀ w∈words,word w=true:=by decide
 have:=DU (h1 w hw);rw [if_pos (by simpa using hw)] at this;exact this
theorem GX {n:Nat} (hn:n<=2147483647):fS (ca n) [kI n]:=by
 intro pre post hp;have hd:(pre++(ca n++post)).drop pre.length=ca n++post:=rL;obtain ⟨h1,h2,h3⟩:=FY n;obtain ⟨c,r,hw⟩:=List.exists_cons_of_ne_nil h3;have dk:=hd;rw [hw,cons_append] at dk;obtain ⟨h4,_,h5⟩:=lS dk;rw [<-cons_append,<-hw] at h4 h5;have hc:dO c=true:=h1 c (by rw [hw];exact mem_cons_self)
 have BM:dy c=false/\c≠47:=by
  simp only [dO,Bool.and_eq_true] at hc;have h1:=of_decide_eq_true hc.1;refine ⟨?_,fun h0=>?_⟩
  ·simp only [dy,Bool.or_eq_false_iff,beq_eq_false_iff_ne];omega
  ·subst h0;revert h1;decide
 have ht:=P7 (Nat.le_of_lt h5) hd hw hn hp.dO
 have:0 < (ca n).length:=by rw [hw];simp
 refine ⟨[_],rfl,Tz.one h4 BM.1 ?_ ht (by simp) (by simpa using by omega) (by omega)⟩;have zA:=dk;rw [<-cons_append,<-hw] at zA;rw [hw] at zA |-;exact B6 zA BM.2
theorem Sn {s:ae} (h:ei s=true):s∈bD:=by
 have hm:s∈levels.flatten:=by
  unfold ei at h;rw [any_eq_true] at h;obtain ⟨l,hl,hc⟩:=h;exact List.mem_flatten.2 ⟨l,hl,by simpa using hc⟩
 have key:∀ s∈levels.flatten,s∈bD:=by decide
 exact key s hm
theorem IV:dR [32] []:=wU (by decide)
theorem fS.then {x:ae} {l:List K} (h:fS x l) {c:UInt8} (hm:c∈[40,41,91,93,44,59,123,125]):dR (x++[c]) (l++[kS [c]]) :=
 h.CY (lC hm) (w5 (by revert hm;unfold Bf;simp only [List.mem_cons,List.not_mem_nil,or_false];rintro (h | h | h | h | h | h | h | h) <;> simp [h]))
theorem fS.sp {x:ae} {l:List K} (h:fS x l):dR (x++[32]) l:=by
 have:=h.CY IV (w5 (by decide));rw [append_nil] at this;exact this
theorem fS.eq {x:ae} {l l':List K} (h:fS x l) (e:l=l'):fS x l':=e ▸ h
theorem dR.eq {x:ae} {l l':List K} (h:dR x l) (e:l=l'):dR x l':=e ▸ h
theorem A2 {lv k:Nat} {x:ae} {l:List K} (h:fS x l):fS (pj lv k x) (xR lv k l):=by
 unfold pj xR;split
 ·have:=((lC (c:=40) (by decide)).apps h).then (c:=41) (by decide);exact this.s.eq (by simp)
 ·exact h
mutual
theorem n9:∀ a:E,a.ok=true->fS a.txt a.tk
 | .num n,h=>by
  simp only [E.ok,Bool.and_eq_true] at h;have h1:=of_decide_eq_true h.1;have h2:=of_decide_eq_true h.2;have:=GX (n:=n.toNat) (by omega);rw [E.txt,E.tk];rw [Int.toNat_of_nonneg h1] at this;exact this
 | .name s,h=>by rw [E.txt,E.tk];exact jl h
 | .at_ s a,h=>by
  simp only [E.ok,Bool.and_eq_true] at h;rw [E.txt,E.tk];exact ((((jl h.1).then (c:=91) (by decide)).apps (n9 a h.2)).then (c:=93) (by decide)).s.eq (by simp)
 | .call s l,h=>by
  simp only [E.ok,Bool.and_eq_true] at h;rw [E.txt,E.tk];exact ((((jl h.1).then (c:=40) (by decide)).apps (TS l h.2)).then (c:=41) (by decide)).s.eq (by simp)
 | .un s a,h=>by
  simp only [E.ok,Bool.and_eq_true,Bool.or_eq_true,beq_iff_eq] at h;rw [E.txt,E.tk]
  have hs:s∈bD:=by rcases h.1 with (h | h) | h <;> (rw [h];decide)
  exact ((yS hs).sp.apps (A2 (n9 a h.2))).eq (by simp)
 | .bin s a b,h=>by
  simp only [E.ok,Bool.and_eq_true] at h;rw [E.txt,E.tk];exact ((((A2 (n9 a h.1.2)).sp.apps (yS (Sn h.1.1))).sp).apps (A2 (n9 b h.2))).eq (by simp)
theorem TS:∀ l:List E,E.cB l=true->fS (bx (E.cx l)) (E.lQ l)
 | [],_=>dR.nil.s
 | a::l,h=>by
  simp only [E.cB,Bool.and_eq_true] at h;rw [E.cx,E.lQ,bx];exact OU l h.2 _ _ (n9 a h.1)
theorem OU:∀ l:List E,E.cB l=true->∀ x m,fS x m->fS (x++(E.cx l).flatMap fun y=>44::32::y) (m++E.pb l)
 | [],_,x,m,hx=>by rw [E.cx,E.pb];simpa using hx
 | a::l,h,x,m,hx=>by
  simp only [E.cB,Bool.and_eq_true] at h;have h1:=((hx.then (c:=44) (by decide)).app IV).apps (n9 a h.1);have h2:=OU l h.2 _ _ h1;rw [E.cx,E.pb,flatMap_cons]
  have e1:x++((44::32::a.txt)++(E.cx l).flatMap fun y=>44::32::y)=(x++[44]++[32]++a.txt)++(E.cx l).flatMap fun y=>44::32::y:=by simp
  rw [e1];exact h2.eq (by simp)
end
theorem fS.set {x:ae} {l:List K} (h:fS x l):dR (x++[32,61,32]) (l++[kS [61]]):=by
 have:=(h.sp.apps (yS (w:=[61]) (by decide))).sp;simpa using this
theorem tf {w:ae} (hw:w∈words):dR (w++[32]) [kS w]:=(K9 hw).sp
mutual
theorem TT:∀ s:S,s.ok=true->dR (s.txt E.txt) s.tk
 | .set s a,h=>by
  simp only [S.ok,Bool.and_eq_true] at h;rw [S.txt,S.tk];exact (((jl h.1).set.apps (n9 a h.2)).then (c:=59) (by decide)).eq (by simp)
 | .put s a b,h=>by
  simp only [S.ok,Bool.and_eq_true] at h;rw [S.txt,S.tk];have h1:=((((jl h.1).then (c:=91) (by decide)).apps (n9 a h.2.1)).then (c:=93) (by decide)).s.set;have h2:=(h1.apps (n9 b h.2.2)).then (c:=59) (by decide)
  have e:s++[91]++a.txt++[93,32,61,32]++b.txt++[59]=s++[91]++a.txt++[93]++[32,61,32]++b.txt++[59]:=by simp
  rw [e];exact h2.eq (by simp)
 | .if1 c b,h=>by
  simp only [S.ok,Bool.and_eq_true] at h;rw [S.txt,S.tk];have h1:=((((tf (w:=[105,102]) (by decide)).app (lC (c:=40) (by decide))).apps (n9 c h.1)).then (c:=41) (by decide)).s.sp;have h2:=h1.app (lexB b h.2)
  have e:[105,102,32,40]++c.txt++[41,32]++(S.cx E.txt [123,32] b++[125])=[105,102]++[32]++[40]++c.txt++[41]++[32]++(S.cx E.txt [123,32] b++[125]):=by simp
  rw [e];exact h2.eq (by simp [dI])
 | .if2 c b b2,h=>by
  simp only [S.ok,Bool.and_eq_true] at h;rw [S.txt,S.tk];have h1:=((((tf (w:=[105,102]) (by decide)).app (lC (c:=40) (by decide))).apps (n9 c h.1)).then (c:=41) (by decide)).s.sp;have h2:=h1.app (lexB b h.2.1);have h3:=((h2.s.sp.apps (K9 (w:=[101,108,115,101]) (by decide))).sp).app (lexB b2 h.2.2)
  have e:[105,102,32,40]++c.txt++[41,32]++(S.cx E.txt [123,32] b++[125])++[32,101,108,115,101,32]++(S.cx E.txt [123,32] b2++[125])=[105,102]++[32]++[40]++c.txt++[41]++[32]++(S.cx E.txt [123,32] b++[125])++[32]++[101,108,115,101]++[32]++(S.cx E.txt [123,32] b2++[125]):=by simp
  rw [e];exact h3.eq (by simp [dI,dW])
 | .while_ c b,h=>by
  simp only [S.ok,Bool.and_eq_true] at h;rw [S.txt,S.tk];have h1:=((((tf (w:=[119,104,105,108,101]) (by decide)).app (lC (c:=40) (by decide))).apps (n9 c h.1)).then (c:=41) (by decide)).s.sp;have h2:=h1.app (lexB b h.2)
  have e:[119,104,105,108,101,32,40]++c.txt++[41,32]++(S.cx E.txt [123,32] b++[125])=[119,104,105,108,101]++[32]++[40]++c.txt++[41]++[32]++(S.cx E.txt [123,32] b++[125]):=by simp
  rw [e];exact h2.eq (by simp [dm])
 | .ret a,h=>by
  simp only [S.ok] at h;rw [S.txt,S.tk];have h1:=((tf (w:=[114,101,116,117,114,110]) (by decide)).apps (n9 a h)).then (c:=59) (by decide);exact h1.eq (by simp [c7])
 | .do_ a,h=>by
  simp only [S.ok] at h;rw [S.txt,S.tk];exact (n9 a h).then (c:=59) (by decide)
 | .var s a,h=>by
  simp only [S.ok,Bool.and_eq_true] at h;rw [S.txt,S.tk];have h1:=((((tf (w:=[118,97,114]) (by decide)).apps (jl h.1)).set).apps (n9 a h.2)).then (c:=59) (by decide);exact h1.eq (by simp [fR])
theorem lexB:∀ l:List S,S.cB l=true->dR (S.cx E.txt [123,32] l++[125]) (kS [123]::(S.lQ l++[kS [125]]))
 | l,h=>by
  have h0:dR [123,32] [kS [123]]:=by
   have:=(lC (c:=123) (by decide)).s.sp;simpa using this
  exact ((OV l h _ _ h0).s.then (c:=125) (by decide)).eq (by simp)
theorem OV:∀ l:List S,S.cB l=true->∀ acc m,dR acc m->dR (S.cx E.txt acc l) (m++S.lQ l)
 | [],_,acc,m,h=>by rw [S.cx,S.lQ,append_nil];exact h
 | a::l,ho,acc,m,h=>by
  simp only [S.cB,Bool.and_eq_true] at ho;rw [S.cx,S.lQ];have h1:=(h.app (TT a ho.1)).s.sp;exact (OV l ho.2 _ _ h1).eq (by simp)
end
theorem dR.all {x:ae} {l:List K} (h:dR x l):∃ ts,ts.map kf=l/\Tz x 0 ts x.length:=by
 obtain ⟨ts,h1,h2⟩:=h [] [];exact ⟨ts,h1,by simpa using h2⟩
theorem GR {l:List S} (h:S.cB l=true):dR (eI E.txt l) (HI l):=lexB l h
end Go.Sp
namespace Go.Im
open Go.Xp Go.Sp
def J8 (s:ae):List K:=[kS kF,kN s,kS [59]]
def FK (a:Ar):List K:=[kS kF,kN a.name,kS [91],kI a.size,kS [93],kS [59]]
def tN:List ae->List K
 | []=>[]
 | s::r=>kS [44]::kN s::tN r
def D8:List ae->List K
 | []=>[]
 | s::r=>kN s::tN r
def F9 (x:Fn × List S):List K:=kS lP::kN x.1.name::kS [40]::(D8 x.1.params++kS [41]::HI x.2)
def f2 (x:Fn × List S):ae:=((((([102,117,110,99,32]++x.1.name)++[40])++bx x.1.params)++[41,32])++eI E.txt x.2)++[10]
theorem GS:dR [59,10] [kS [59]]:=(lC (c:=59) (by decide)).app (wU (c:=10) (by decide))
theorem TW {s:ae} (h:bg s=true):dR (g1 s) (J8 s) :=
 ((tf (w:=kF) (by decide)).apps (jl h)).CY GS (w5 (c:=59) (x:=[10]) (by decide))
theorem TU {a:Ar} (h:nw a=true):dR (a1 a) (FK a):=by
 unfold nw at h;simp only [Bool.and_eq_true,Bool.not_eq_true',decide_eq_false_iff_not] at h;obtain ⟨⟨h1,h2⟩,h3⟩:=h
 have hz:nb a.size=ca a.size.toNat:=by unfold nb;rw [if_neg h2]
 have hk:kI a.size=kI ((a.size.toNat:Nat):Int):=by rw [Int.toNat_of_nonneg (by omega)]
 have x1:=((tf (w:=kF) (by decide)).apps (jl h1)).then (c:=91) (by decide);have x2:=x1.apps (GX (n:=a.size.toNat) (by omega));have x3:=x2.CY ((lC (c:=93) (by decide)).app GS) (w5 (c:=93) (x:=[59,10]) (by decide));unfold a1 FK;rw [hz,hk];exact x3
theorem La:∀ (ps:List ae),b6 ps=true->∀ x m,fS x m->fS (x++ps.flatMap fun y=>44::32::y) (m++tN ps)
 | [],_,x,m,h=>by rw [List.flatMap_nil,append_nil,tN,append_nil];exact h
 | s::r,hp,x,m,h=>by
  unfold b6 at hp;rw [all_cons,Bool.and_eq_true] at hp;have h1:=(h.then (c:=44) (by decide)).app IV;have h2:=h1.apps (jl hp.1);have h3:=La r hp.2 _ _ h2;rw [flatMap_cons,tN];refine fS.eq (cast (congrArg (fun z=>fS z _) ?_) h3) ?_
  ·simp
  ·simp
theorem TX {ps:List ae} (h:b6 ps=true):fS (bx ps) (D8 ps):=by
 match ps,h with
 | [],_=>exact dR.nil.s
 | s::r,h =>
  unfold b6 at h;rw [all_cons,Bool.and_eq_true] at h;exact La r h.2 s [kN s] (jl h.1)
theorem TV {x:Fn × List S} (h1:bg x.1.name=true) (h2:b6 x.1.params=true) (h3:S.cB x.2=true):dR (f2 x) (F9 x):=by
 have x1:=((tf (w:=lP) (by decide)).apps (jl h1)).then (c:=40) (by decide);have x2:=(x1.apps (TX h2)).CY ((lC (c:=41) (by decide)).app IV) (w5 (c:=41) (x:=[32]) (by decide));have x3:=(x2.app (GR h3)).app (wU (c:=10) (by decide));refine dR.eq x3 ?_;simp [F9]
theorem xv {α:Type} {f:α->ae} {k:α->List K}:∀ (l:List α),(∀ x∈l,dR (f x) (k x))->∀ acc m,dR acc m->dR (db f acc l) (m++l.flatMap k)
 | [],_,acc,m,h=>by rw [db,List.flatMap_nil,append_nil];exact h
 | x::l,hl,acc,m,h=>by
  rw [db,flatMap_cons,<-append_assoc];exact xv l (fun y hy=>hl y (mem_cons_of_mem _ hy)) _ _ (h.app (hl x mem_cons_self))
theorem Jz {inl:List ae->Nat->ae}:∀ (fns:List Fn) (l:List T) (ls:List (List S)) (acc:ae),ls.length=l.length->(∀ (i:Nat) t b,l[i]?=some t->ls[i]?=some b->mc cD inl 0 t=eI E.txt b) ->
  db (f1 cD inl) acc (fns.zip l)=db f2 acc (fns.zip ls)
 | [],l,ls,acc,_,_=>by simp [db]
 | f::r,[],[],acc,_,_=>by simp [db]
 | f::r,t::l,b::ls,acc,hl,h=>by
  have h0:=h 0 t b rfl rfl;rw [zip_cons_cons,zip_cons_cons,db,db,Jz r l ls _ (by simpa using hl) fun i t' b' h1 h2=>h (i+1) t' b' (by simpa using h1) (by simpa using h2)];simp only [f1,f2,h0]
 | f::r,[],b::ls,acc,hl,_=>by simp at hl
 | f::r,t::l,[],acc,hl,_=>by simp at hl
section
variable {p q:RS} {ts r rest:List Tok} {u:Tok} {s:ae}
theorem pf (h:On p (u::r)):tok p 0=u:=by rw [On.tok h];rfl
theorem yP (h:On p (u::r)) (hk:kf u=kS s):is p 0 s=true:=by
 obtain ⟨h1,h2⟩:=dN hk;unfold is;rw [pf h,h1,h2];simp
theorem Ie (h:On p (u::r)) {k:K} (hk:kf u=k) (hn:k.1=3->k.2.2≠s):is p 0 s=false:=by
 unfold is;rw [pf h];subst hk
 by_cases h3:u.kind=3
 ·have:=hn h3;simp only [kf] at this;simp [h3,this]
 ·simp [h3]
theorem sH (h:On p (u::r)) (hk:kf u=kS s):want p s=p.next:=by unfold want;rw [if_pos h.code,if_pos (yP h hk)]
theorem wW (h:On p (u::r)) (hk:kf u=kN s) (hl:bg s=true):bf p=p.next:=by
 obtain ⟨h1,h2⟩:=oT hk;have:=lD hl;unfold bf;rw [if_pos h.code,pf h,if_pos h1,if_neg (by rw [h2];omega)]
theorem nx (h:On p (u::r)):On p.next r:=h.next.1
theorem dY (h:On p (u::r)):p.next.l=p.l/\p.next.e=p.e:=⟨h.next.2.1,h.next.2.2⟩
theorem Wp (h:On p (u::r)):p.i < p.l.length:=by
 have:=congrArg List.length h.rest;rw [length_drop,length_cons] at this;omega
theorem Sr (h:On p []):¬ p.i < p.l.length:=by
 have:=congrArg List.length h.rest;rw [length_drop,length_nil] at this;omega
theorem Gz {G f:Nat} {st:PS} (h:p.code≠0) (hg:1<=G):mh G f p st=some (p,st):=by
 obtain ⟨G,rfl⟩:∃ g',G=g'+1:=⟨G - 1,by omega⟩;rw [mh,if_neg (fun hc=>h hc.1)]
theorem xu {f:Nat} {acc:List ae} (h:p.code≠0) (hg:1<=f):nP f acc p=some (acc,p):=by
 obtain ⟨f,rfl⟩:∃ g',f=g'+1:=⟨f - 1,by omega⟩;rw [nP,if_neg (fun hc=>h hc.1),fo h]
end
theorem Wl {f:Nat} {p:RS} {st:PS} {ts rest:List Tok} {s:ae} (hp:On p (ts++rest)) (ht:ts.map kf=J8 s) (hs:bg s=true) :
  ∃ q,iW f p st=some (q,{ st with globals:=st.globals++[s] })/\bA p q (.ok rest):=by
 obtain ⟨u,r,rfl,h1,ht⟩:=map_cons ht;obtain ⟨v,r,rfl,h2,ht⟩:=map_cons ht;obtain ⟨w,rfl,h3⟩:=gq ht;simp only [cons_append,nil_append] at hp;have p1:=nx hp;have p2:=nx p1;have p3:=nx p2;refine ⟨p.next.next.next,?_,p3,by rw [(dY p2).1,(dY p1).1,(dY hp).1],by rw [(dY p2).2,(dY p1).2,(dY hp).2]⟩;unfold iW;rw [if_pos (yP hp h1),wW p1 h2 hs,Ie p2 h3 (by decide),if_neg (by rintro ⟨_,h⟩;cases h),sH p2 h3,pf p1,(oT h2).2]
theorem Wi {f:Nat} {p:RS} {st:PS} {ts rest:List Tok} {a:Ar} (hp:On p (ts++rest)) (ht:ts.map kf=FK a) (hs:bg a.name=true) :
  ∃ q,iW f p st=some (q,{ st with arrays:=st.arrays++[a] })/\bA p q (.ok rest):=by
 obtain ⟨u,r,rfl,h1,ht⟩:=map_cons ht;obtain ⟨v,r,rfl,h2,ht⟩:=map_cons ht;obtain ⟨w,r,rfl,h3,ht⟩:=map_cons ht;obtain ⟨x,r,rfl,h4,ht⟩:=map_cons ht;obtain ⟨y,r,rfl,h5,ht⟩:=map_cons ht;obtain ⟨z,rfl,h6⟩:=gq ht;simp only [cons_append,nil_append] at hp;have p1:=nx hp;have p2:=nx p1;have p3:=nx p2;have p4:=nx p3;have p5:=nx p4;have p6:=nx p5;refine ⟨p.next.next.next.next.next.next,?_,p6,by rw [(dY p5).1,(dY p4).1,(dY p3).1,(dY p2).1,(dY p1).1,(dY hp).1],by rw [(dY p5).2,(dY p4).2,(dY p3).2,(dY p2).2,(dY p1).2,(dY hp).2]⟩;unfold iW;rw [if_pos (yP hp h1),wW p1 h2 hs,if_pos ⟨p2.code,yP p2 h3⟩,pf p3,if_pos (M4 h4).1,sH p4 h5,sH p5 h6,pf p1,(oT h2).2,(M4 h4).2]
theorem ON {rest:List Tok} {u:Tok} (hu:kf u=kS [41]):∀ (ps:List ae) (f:Nat) (acc:List ae) (p:RS) (ts:List Tok),ps.length < f->acc≠[]->b6 ps=true->On p (ts++u::rest)->ts.map kf=tN ps ->
  ∃ q,nP f acc p=some (acc++ps,q)/\bA p q (.ok rest)
 | [],f,acc,p,ts,hf,ha,_,hp,ht=>by
  obtain ⟨f,rfl⟩:∃ g',f=g'+1:=⟨f - 1,by omega⟩
  have:ts=[]:=by simpa [tN] using ht
  subst this;rw [nil_append] at hp;refine ⟨p.next,?_,nx hp,dY hp⟩;rw [nP,if_neg (by rw [yP hp hu];rintro ⟨_,h⟩;cases h),sH hp hu,append_nil]
 | s::ps,f,acc,p,ts,hf,ha,hn,hp,ht=>by
  obtain ⟨f,rfl⟩:∃ g',f=g'+1:=⟨f - 1,by omega⟩;rw [tN] at ht;obtain ⟨v,r,rfl,h1,ht⟩:=map_cons ht;obtain ⟨w,r,rfl,h2,ht⟩:=map_cons ht;unfold b6 at hn;rw [all_cons,Bool.and_eq_true] at hn;simp only [cons_append] at hp;have p1:=nx hp;have p2:=nx p1
  have Xj:acc.length≠0:=fun h=>ha (eq_nil_of_length_eq_zero h)
  rw [length_cons] at hf
  obtain ⟨q,h3,h4⟩:=ON hu ps f (acc++[s]) p.next.next r (by omega) (by simp) hn.2 p2 ht
  refine ⟨q,?_,h4.1,by rw [h4.2.1,(dY p1).1,(dY hp).1],by rw [h4.2.2,(dY p1).2,(dY hp).2]⟩;rw [nP,if_pos ⟨hp.code,Ie hp h1 (by decide)⟩,if_neg Xj,sH hp h1,pf p1,(oT h2).2,wW p1 h2 hn.1,h3];simp
theorem TK {rest:List Tok} {u:Tok} (hu:kf u=kS [41]) (ps:List ae) (f:Nat) (p:RS) (ts:List Tok) (hf:ps.length < f) (hn:b6 ps=true) (hp:On p (ts++u::rest)) (ht:ts.map kf=D8 ps) :
  ∃ q,nP f [] p=some (ps,q)/\bA p q (.ok rest):=by
 obtain ⟨f,rfl⟩:∃ g',f=g'+1:=⟨f - 1,by omega⟩
 match ps,hn,ht,hf with
 | [],_,ht,_ =>
  have:ts=[]:=by simpa [D8] using ht
  subst this;rw [nil_append] at hp;refine ⟨p.next,?_,nx hp,dY hp⟩;rw [nP,if_neg (by rw [yP hp hu];rintro ⟨_,h⟩;cases h),sH hp hu]
 | s::ps,hn,ht,hf =>
  rw [D8] at ht;obtain ⟨w,r,rfl,h2,ht⟩:=map_cons ht;unfold b6 at hn;rw [all_cons,Bool.and_eq_true] at hn;simp only [cons_append] at hp;have p2:=nx hp;rw [length_cons] at hf
  obtain ⟨q,h3,h4⟩:=ON hu ps f ([]++[s]) p.next r (by omega) (by simp) hn.2 p2 ht
  refine ⟨q,?_,h4.1,by rw [h4.2.1,(dY hp).1],by rw [h4.2.2,(dY hp).2]⟩;rw [nP,if_pos ⟨hp.code,Ie hp h2 (fun h=>by cases h)⟩,if_pos (by rfl),pf hp,(oT h2).2,wW hp h2 hn.1,h3];rfl
def fW (p:RS):Nat:=40 * p.l.length+100
theorem D9:∀ ps:List ae,ps.length<=(tN ps).length
 | []=>Nat.zero_le _
 | s::r=>by have:=D9 r;rw [tN,length_cons,length_cons,length_cons];omega
theorem Qb (ps:List ae):ps.length<=(D8 ps).length:=by
 cases ps with
 | nil=>exact Nat.zero_le _
 | cons s r=>have:=D9 r;rw [D8,length_cons,length_cons];omega
theorem On.len {p:RS} {ts:List Tok} (h:Go.Sp.On p ts):ts.length<=p.l.length:=by
 rw [<-h.rest,length_drop];omega
theorem Sd {f:Nat} {q:RS} {ts:List Tok} (hq:Go.Sp.On q ts) (hs:rF q.l) (hf:fW q<=f):∃ t q',iS f (.block 1) q=some (t,q')/\ic q q' t (block q.e 1 ts):=by
 obtain ⟨t,q',h1,h2⟩:=(X7 (lJ ts)).block 1 ts q hq hs u6;have:=On.len hq;exact ⟨t,q',h1 f (by unfold KI lJ;unfold fW at hf;omega),h2⟩
theorem Wj {f:Nat} {p:RS} {st:PS} {ts rest:List Tok} {x:Fn × List S} (hp:On p (ts++rest)) (hs:rF p.l) (hf:fW p<=f) (ht:ts.map kf=F9 x) (h1:bg x.1.name=true) (h2:b6 x.1.params=true) (h3:S.cB x.2=true) :
  (ea x.2 1=true->∃ q t,iW f p st=some (q,{ st with trees:=st.trees++[t],fns:=st.fns++[(x.1.name,x.1.params)] })/\er t=bB x.2/\bA p q (.ok rest)) /\
  (ea x.2 1=false->∃ q dM,iW f p st=some (q,dM)/\q.code≠0):=by
 obtain ⟨u,r,rfl,k1,ht⟩:=map_cons ht;obtain ⟨v,r,rfl,k2,ht⟩:=map_cons ht;obtain ⟨w,r,rfl,k3,ht⟩:=map_cons ht;obtain ⟨A,r,rfl,k4,ht⟩:=cZ ht;obtain ⟨y,r,rfl,k5,ht⟩:=map_cons ht;simp only [cons_append,append_assoc] at hp;have p1:=nx hp;have p2:=nx p1;have p3:=nx p2
 have hl:p.next.next.next.l=p.l:=by rw [(dY p2).1,(dY p1).1,(dY hp).1]
 have hA:x.1.params.length<=A.length:=by have:=Qb x.1.params;rw [<-k4,length_map] at this;exact this
 have cJ:=On.len p3;simp only [length_append] at cJ;rw [hl] at cJ
 have RB:x.1.params.length < f:=by unfold fW at hf;omega
 obtain ⟨q,h4,h5⟩:=TK k5 x.1.params f p.next.next.next A RB h2 p3 k4
 have pA:q.l=p.l:=h5.2.1.trans hl;obtain ⟨t,q',h6,h7⟩:=Sd (f:=f) h5.1 (by rw [pA];exact hs) (by unfold fW at hf |-;rw [pA];exact hf);obtain ⟨r1,r2⟩:=CZ (e:=q.e) (d:=1) (rest:=rest) h3 ht
 have hw:iW f p st=some (q',{ st with trees:=st.trees++[t],fns:=st.fns++[(x.1.name,x.1.params)] }):=by
  unfold iW;rw [if_neg (by rw [Ie hp k1 (by decide)];decide),if_pos (yP hp k1),wW p1 k2 h1,sH p2 k3,h4];simp only;rw [if_pos h5.1.code,h6,pf p1,(oT k2).2]
 refine ⟨fun tK=>?_,fun tK=>?_⟩
 ·obtain ⟨t',j1,j2⟩:=r1 tK;rw [j2] at h7;obtain ⟨rfl,j3⟩:=h7;exact ⟨q',t,hw,j1,j3.1,j3.2.1.trans pA,j3.2.2.trans (h5.2.2.trans (by rw [(dY p2).2,(dY p1).2,(dY hp).2]))⟩
 ·obtain ⟨pos,j2⟩:=r2 tK;rw [j2] at h7;exact ⟨q',_,hw,bA.err h7⟩
theorem pO {G f:Nat} {p q:RS} {st dM:PS} {u:Tok} {r:List Tok} (hp:On p (u::r)) (h:iW f p st=some (q,dM)):mh (G+1) f p st=mh G f q dM:=by
 rw [mh,if_pos ⟨hp.code,Wp hp⟩,h]
theorem OS {f:Nat} {rest:List Tok}:∀ (gs:List ae) (p:RS) (st:PS) (ts:List Tok),On p (ts++rest)->ts.map kf=gs.flatMap J8->b6 gs=true ->
  ∃ q,bA p q (.ok rest)/\∀ G,mh (G+gs.length) f p st=mh G f q { st with globals:=st.globals++gs }
 | [],p,st,ts,hp,ht,_=>by
  have:ts=[]:=by simpa using ht
  subst this;exact ⟨p,On.self hp,fun G=>by simp⟩
 | s::gs,p,st,ts,hp,ht,hn=>by
  rw [flatMap_cons] at ht;obtain ⟨A,B,rfl,h1,h2⟩:=cZ ht;unfold b6 at hn;rw [all_cons,Bool.and_eq_true] at hn;rw [append_assoc] at hp;obtain ⟨q,h3,h4⟩:=Wl (f:=f) (st:=st) hp h1 hn.1;obtain ⟨q',h5,h6⟩:=OS gs q { st with globals:=st.globals++[s] } B h4.1 h2 hn.2;refine ⟨q',h4.tr h5,fun G=>?_⟩;obtain ⟨u,r,rfl,_,_⟩:=map_cons h1;rw [length_cons,<-Nat.add_assoc,pO hp h3,h6];simp
theorem OO {f:Nat} {rest:List Tok}:∀ (as:List Ar) (p:RS) (st:PS) (ts:List Tok),On p (ts++rest)->ts.map kf=as.flatMap FK->as.all nw=true ->
  ∃ q,bA p q (.ok rest)/\∀ G,mh (G+as.length) f p st=mh G f q { st with arrays:=st.arrays++as }
 | [],p,st,ts,hp,ht,_=>by
  have:ts=[]:=by simpa using ht
  subst this;exact ⟨p,On.self hp,fun G=>by simp⟩
 | s::gs,p,st,ts,hp,ht,hn=>by
  rw [flatMap_cons] at ht;obtain ⟨A,B,rfl,h1,h2⟩:=cZ ht;rw [all_cons,Bool.and_eq_true] at hn;rw [append_assoc] at hp
  have ef:bg s.name=true:=by have:=hn.1;unfold nw at this;simp only [Bool.and_eq_true] at this;exact this.1.1
  obtain ⟨q,h3,h4⟩:=Wi (f:=f) (st:=st) hp h1 ef;obtain ⟨q',h5,h6⟩:=OO gs q { st with arrays:=st.arrays++[s] } B h4.1 h2 hn.2;refine ⟨q',h4.tr h5,fun G=>?_⟩;obtain ⟨u,r,rfl,_,_⟩:=map_cons h1;rw [length_cons,<-Nat.add_assoc,pO hp h3,h6];simp
def Ta (x:Fn × List S):Prop:=bg x.1.name=true/\b6 x.1.params=true/\S.cB x.2=true
theorem OR {f:Nat}:∀ (xs:List (Fn × List S)) (p:RS) (st:PS) (ts:List Tok),On p ts->rF p.l->fW p<=f->ts.map kf=xs.flatMap F9->(∀ x∈xs,Ta x) ->
  ((xs.all fun x=>ea x.2 1)=true->∃ q l,(∀ G,xs.length < G->mh G f p st=some (q,{ st with trees:=st.trees++l,fns:=st.fns++xs.map fun x=>(x.1.name,x.1.params) }))/\q.code=0/\aI l=xs.map fun x=>bB x.2) /\
  ((xs.all fun x=>ea x.2 1)=false->∃ q dM,(∀ G,xs.length < G->mh G f p st=some (q,dM))/\q.code≠0)
 | [],p,st,ts,hp,_,_,ht,_=>by
  have:ts=[]:=by simpa using ht
  subst this;refine ⟨fun _=>⟨p,[],fun G hG=>?_,hp.code,by rw [aI];rfl⟩,fun h=>by cases h⟩;obtain ⟨G,rfl⟩:∃ g',G=g'+1:=⟨G - 1,by rw [length_nil] at hG;omega⟩;rw [mh,if_neg (fun hc=>Sr hp hc.2)];simp
 | x::xs,p,st,ts,hp,hs,hf,ht,hx=>by
  rw [flatMap_cons] at ht;obtain ⟨A,B,rfl,h1,h2⟩:=cZ ht;obtain ⟨x1,x2,x3⟩:=hx x mem_cons_self;obtain ⟨k1,k2⟩:=Wj (st:=st) hp hs hf h1 x1 x2 x3
  have bO:∃ u r,A++B=u::r:=by obtain ⟨u,r,rfl,_,_⟩:=map_cons h1;exact ⟨u,_,rfl⟩
  obtain ⟨u,r,hu⟩:=bO;rw [hu] at hp
  cases hb:ea x.2 1 with
  | false =>
   obtain ⟨q,dM,k3,k4⟩:=k2 hb;refine ⟨fun h=>(by rw [all_cons,hb] at h;cases h),fun _=>⟨q,dM,fun G hG=>?_,k4⟩⟩;obtain ⟨G,rfl⟩:∃ g',G=g'+1:=⟨G - 1,by rw [length_cons] at hG;omega⟩;rw [pO hp k3,Gz k4 (by rw [length_cons] at hG;omega)]
  | true =>
   obtain ⟨q,t,k3,k4,k5⟩:=k1 hb;have pA:q.l=p.l:=k5.2.1;obtain ⟨j1,j2⟩:=OR (f:=f) xs q { st with trees:=st.trees++[t],fns:=st.fns++[(x.1.name,x.1.params)] } B k5.1 (by rw [pA];exact hs) (by unfold fW at hf |-;rw [pA];exact hf) h2 (fun y hy=>hx y (mem_cons_of_mem _ hy));rw [all_cons,hb,Bool.true_and];refine ⟨fun h=>?_,fun h=>?_⟩
   ·obtain ⟨q',l,j3,j4,j5⟩:=j1 h;refine ⟨q',t::l,fun G hG=>?_,j4,by rw [aI,k4,j5];rfl⟩;obtain ⟨G,rfl⟩:∃ g',G=g'+1:=⟨G - 1,by rw [length_cons] at hG;omega⟩;rw [pO hp k3,j3 G (by rw [length_cons] at hG;omega)];simp
   ·obtain ⟨q',dM,j3,j4⟩:=j2 h;refine ⟨q',dM,fun G hG=>?_,j4⟩;obtain ⟨G,rfl⟩:∃ g',G=g'+1:=⟨G - 1,by rw [length_cons] at hG;omega⟩;rw [pO hp k3,j3 G (by rw [length_cons] at hG;omega)]
theorem Lp (G:List ae) (As:List Ar) (xs:List (Fn × List S)) (h1:b6 G=true) (h2:As.all nw=true) (h3:∀ x∈xs,Ta x) :
  ∃ ts,Tz (db f2 (db a1 (db g1 [] G) As) xs) 0 ts (db f2 (db a1 (db g1 [] G) As) xs).length /\
  (rF ts->∀ (e:Int) (g f:Nat),ts.length+1<=g->40 * ts.length+100<=f ->
   ((xs.all fun x=>ea x.2 1)=true->∃ q l,mh g f ⟨ts,0,e,0,0⟩ .empty=some (q,⟨l,G,As,xs.map fun x=>(x.1.name,x.1.params)⟩)/\q.code=0/\aI l=xs.map fun x=>bB x.2) /\
   ((xs.all fun x=>ea x.2 1)=false->∃ q dM,mh g f ⟨ts,0,e,0,0⟩ .empty=some (q,dM)/\q.code≠0)):=by
 have l1:=xv (f:=g1) (k:=J8) G (fun s hs=>TW (List.all_eq_true.1 h1 s hs)) [] [] dR.nil;have l2:=xv (f:=a1) (k:=FK) As (fun s hs=>TU (List.all_eq_true.1 h2 s hs)) _ _ l1;have l3:=xv (f:=f2) (k:=F9) xs (fun x hx=>by obtain ⟨a,b,c⟩:=h3 x hx;exact TV a b c) _ _ l2;obtain ⟨ts,k1,k2⟩:=l3.all;refine ⟨ts,k2,fun hs e g f hg hf=>?_⟩;rw [nil_append] at k1;obtain ⟨A,C,rfl,k3,k4⟩:=cZ k1;obtain ⟨A,B,rfl,k5,k6⟩:=cZ k3;have BQ:On ⟨(A++B)++C,0,e,0,0⟩ (A++(B++C)):=⟨rfl,Nat.zero_le _,by simp,k2.kinds⟩;obtain ⟨q1,j1,j2⟩:=OS (f:=f) G _ .empty A BQ k5 h1;obtain ⟨q2,j3,j4⟩:=OO (f:=f) As q1 _ B j1.1 k6 h2;have pA:q2.l=(A++B)++C:=(j1.tr j3).2.1;obtain ⟨j5,j6⟩:=OR (f:=f) xs q2 { ({ PS.empty with globals:=PS.empty.globals++G }:PS) with arrays:=PS.empty.arrays++As } C j3.1 (by rw [pA];exact hs) (by unfold fW;rw [pA];exact hf) k4 h3
 have c1:G.length<=A.length:=by
  have:=congrArg List.length k5;rw [length_map] at this;rw [this];clear this k5 j1 j2 j3 j4 j5 j6 pA BQ hs k1 k2 k3 l1 l2 l3 hf hg h1
  induction G with
  | nil=>exact Nat.le_refl _
  | cons s G ih=>rw [flatMap_cons,length_append,length_cons];simp only [J8,length_cons,length_nil];omega
 have c2:As.length<=B.length:=by
  have:=congrArg List.length k6;rw [length_map] at this;rw [this];clear this k6 j1 j2 j3 j4 j5 j6 pA BQ hs k1 k2 k3 l1 l2 l3 hf hg h2
  induction As with
  | nil=>exact Nat.le_refl _
  | cons s G ih=>rw [flatMap_cons,length_append,length_cons];simp only [FK,length_cons,length_nil];omega
 have c3:xs.length<=C.length:=by
  have:=congrArg List.length k4;rw [length_map] at this;rw [this];clear this k4 j1 j2 j3 j4 j5 j6 pA BQ hs k1 k2 k3 l1 l2 l3 hf hg h3
  induction xs with
  | nil=>exact Nat.le_refl _
  | cons s G ih=>rw [flatMap_cons,length_append,length_cons];simp only [F9,length_cons];omega
 rw [length_append,length_append] at hg;have l0:∃ g',xs.length < g'/\g=g'+As.length+G.length:=⟨g - As.length - G.length,by omega,by omega⟩;obtain ⟨g',kM,rfl⟩:=l0;rw [j2,j4];refine ⟨fun h=>?_,fun h=>?_⟩
 ·obtain ⟨q,l,j7,j8,j9⟩:=j5 h;exact ⟨q,l,j7 g' kM,j8,j9⟩
 ·obtain ⟨q,dM,j7,j8⟩:=j6 h;exact ⟨q,dM,j7 g' kM,j8⟩
end Go.Im
namespace Go.Im
open Go.Xp Go.Sp
structure An (st:PS):Prop where
 globals:b6 st.globals=true
 arrays:st.arrays.all nw=true
 fns:∀ x∈st.fns,bg x.1=true/\b6 x.2=true
 trees:∀ t∈st.trees,BF t
 len:st.fns.length=st.trees.length
theorem yh {a b:List ae} (h:b6 a=true) (k:b6 b=true):b6 (a++b)=true:=by
 unfold b6 at *;rw [List.all_append,h,k];rfl
theorem yi {s:ae} (h:bg s=true):b6 [s]=true:=by
 unfold b6;rw [all_cons,h];rfl
theorem Sf.len {a b:List Tok} {n:Nat} (h:Sf a b n):b.length+n<=a.length:=by
 obtain ⟨p,rfl,h⟩:=h;rw [length_append];omega
theorem Gx:∀ (f:Nat) (acc:List ae) (p:RS) (ts:List Tok),On p ts->qs ts->ts.length+1 < f->b6 acc=true ->
  ∃ l q,nP f acc p=some (l,q)/\((∃ r n,bA p q (.ok r)/\b6 l=true/\Sf ts r n)\/q.code≠0)
 | 0,acc,p,ts,_,_,hf,_=>by omega
 | f+1,acc,p,ts,hp,ho,hf,hn=>by
  rw [nP]
  by_cases hc:p.code=0/\is p 0 [41]=false
  ·rw [if_pos hc]
   have kB:(∃ r,bA p (if acc.length=0 then p else want p [44]) (.ok r)/\Sf ts r 0)\/(if acc.length=0 then p else want p [44]).code≠0:=by
    by_cases ha:acc.length=0
    ·rw [if_pos ha];exact .inl ⟨ts,On.self hp,.nil _⟩
    ·rw [if_neg ha]
     rcases lg hp (s:=[44]) (by decide) with ⟨r,h1,h2⟩ | ⟨x,h1,h2⟩
     ·exact .inl ⟨r,h2,(Sf.aE (by decide) h1).le (Nat.zero_le _)⟩
     ·exact .inr (bA.err h2)
   generalize (if acc.length=0 then p else want p [44])=p' at *
   rcases kB with ⟨r,h1,h2⟩ | h1
   ·rcases sq h1.1 with ⟨r2,h3,h4⟩ | ⟨x,h3,h4⟩
    ·obtain ⟨k1,k2⟩:=Sf.name h3 (h2.ok ho);have hlen:=(h2.trans k1).len;obtain ⟨l,q,k3,k4⟩:=Gx f (acc++[(tok p' 0).s]) (bf p') r2 h4.1 ((h2.trans k1).ok ho) (by omega) (yh hn (yi k2));refine ⟨l,q,k3,?_⟩
     rcases k4 with ⟨r3,n,k5,k6,k7⟩ | k5
     ·exact .inl ⟨r3,_,(h1.tr h4).tr k5,k6,(h2.trans k1).trans k7⟩
     ·exact .inr k5
    ·exact ⟨_,_,xu (bA.err h4) (by omega),.inr (bA.err h4)⟩
   ·rw [Lg h1];exact ⟨_,_,xu h1 (by omega),.inr h1⟩
  ·rw [if_neg hc]
   rcases lg hp (s:=[41]) (by decide) with ⟨r,h1,h2⟩ | ⟨x,h1,h2⟩
   ·exact ⟨acc,_,rfl,.inl ⟨r,1,h2,hn,Sf.aE (by decide) h1⟩⟩
   ·exact ⟨acc,_,rfl,.inr (bA.err h2)⟩
theorem Sg {f:Nat} {p:RS} {st:PS} {u:Tok} {r0:List Tok} (hp:On p (u::r0)) (ho:qs (u::r0)) (hs:rF p.l) (hf:fW p<=f) (bE:An st) :
  ∃ q dM,iW f p st=some (q,dM)/\((∃ r n,bA p q (.ok r)/\An dM/\Sf (u::r0) r (n+1)/\ay dM.trees<=n+1+ay st.trees)\/q.code≠0):=by
 have p1:=nx hp;have fH:=Sf.one u r0;unfold iW
 by_cases h1:is p 0 kF=true
 ·rw [if_pos h1]
  rcases sq p1 with ⟨r1,a1,a2⟩ | ⟨x,a1,a2⟩
  ·obtain ⟨b1,b2⟩:=Sf.name a1 (fH.ok ho);have b3:=fH.trans b1;have a3:bA p (bf p.next) (.ok r1):=(On.next hp).tr a2
   by_cases h2:(bf p.next).code=0/\is (bf p.next) 0 [91]=true
   ·rw [if_pos h2]
    have h3:sign r1 0=[91]:=by
     have:=On.is a2.1 0 (s:=[91]) (by decide);rw [h2.2] at this;simpa using this.symm
    obtain ⟨v,h4,_⟩:=sA (by decide) h3;have b4:=b3.trans (Sf.sign (by decide) h3);have p2:=a2.1;rw [h4] at p2
    have a4:bA p (bf p.next).next (.ok r1.tail):=a3.tr (On.next p2)
    have p3:=nx p2
    by_cases h5:(tok (bf p.next).next 0).kind=1
    ·rw [if_pos h5]
     cases hr:r1.tail with
     | nil =>
      rw [hr] at p3;have:=On.tok p3 0;rw [this] at h5;cases h5
     | cons w r3 =>
      rw [hr] at p3 a4 b4;have p4:=nx p3;have b5:=b4.trans (Sf.one w r3);have a5:=a4.tr (On.next p3);rw [pf p3] at h5;have hw:=(b4.ok ho w mem_cons_self).num h5
      rcases lg p4 (s:=[93]) (by decide) with ⟨r4,c1,c2⟩ | ⟨x,c1,c2⟩
      ·rcases lg c2.1 (s:=[59]) (by decide) with ⟨r5,d1,d2⟩ | ⟨x,d1,d2⟩
       ·refine ⟨_,_,rfl,.inl ⟨r5,0,(a5.tr c2).tr d2,⟨bE.globals,?_,bE.fns,bE.trees,bE.len⟩,((b5.trans (Sf.aE (by decide) c1)).trans (Sf.aE (by decide) d1)).le (by omega),by simp only;omega⟩⟩;simp only;rw [List.all_append,bE.arrays,all_cons,List.all_nil,Bool.and_true,Bool.true_and];unfold nw;rw [pf p3,b2];simp only [Bool.and_eq_true,Bool.not_eq_true',decide_eq_false_iff_not];exact ⟨⟨trivial,by omega⟩,by omega⟩
       ·exact ⟨_,_,rfl,.inr (bA.err d2)⟩
      ·refine ⟨_,_,rfl,.inr ?_⟩;rw [fo (bA.err c2)];exact bA.err c2
    ·rw [if_neg h5];exact ⟨_,_,rfl,.inr (bA.err (On.jw p3))⟩
   ·rw [if_neg h2]
    rcases lg a2.1 (s:=[59]) (by decide) with ⟨r4,c1,c2⟩ | ⟨x,c1,c2⟩
    ·exact ⟨_,_,rfl,.inl ⟨r4,0,a3.tr c2,⟨yh bE.globals (yi b2),bE.arrays,bE.fns,bE.trees,bE.len⟩,(b3.trans (Sf.aE (by decide) c1)).le (by omega),by simp only;omega⟩⟩
    ·exact ⟨_,_,rfl,.inr (bA.err c2)⟩
  ·rw [if_neg (fun h=>bA.err a2 h.1),fo (bA.err a2)];exact ⟨_,_,rfl,.inr (bA.err a2)⟩
 ·rw [if_neg h1]
  by_cases h2:is p 0 lP=true
  ·rw [if_pos h2]
   rcases sq p1 with ⟨r1,a1,a2⟩ | ⟨x,a1,a2⟩
   ·obtain ⟨b1,b2⟩:=Sf.name a1 (fH.ok ho);have b3:=fH.trans b1;have a3:bA p (bf p.next) (.ok r1):=(On.next hp).tr a2
    rcases lg a2.1 (s:=[40]) (by decide) with ⟨r2,c1,c2⟩ | ⟨x,c1,c2⟩
    ·have b4:=b3.trans (Sf.aE (by decide) c1);have a4:=a3.tr c2;have hl:=On.len c2.1;have jR:(want (bf p.next) [40]).l=p.l:=a4.2.1;obtain ⟨l,q,k1,k2⟩:=Gx f [] _ r2 c2.1 (b4.ok ho) (by rw [jR] at hl;unfold fW at hf;omega) rfl;rw [k1];simp only
     rcases k2 with ⟨r3,n,k3,k4,k5⟩ | k3
     ·have a5:=a4.tr k3;have pA:q.l=p.l:=a5.2.1;rw [if_pos k3.1.code];obtain ⟨t,q',k6,k7⟩:=Sd (f:=f) k3.1 (by rw [pA];exact hs) (by unfold fW at hf |-;rw [pA];exact hf);rw [k6];simp only;have b5:=b4.trans k5
      cases hb:block q.e 1 r3 with
      | error x=>rw [hb] at k7;exact ⟨_,_,rfl,.inr (bA.err k7)⟩
      | ok y =>
       obtain ⟨t',r4⟩:=y;rw [hb] at k7;obtain ⟨rfl,k7⟩:=k7;obtain ⟨k8,k9⟩:=HJ (b5.ok ho) hb;refine ⟨_,_,rfl,.inl ⟨r4,n+aD t+2,a5.tr k7,⟨bE.globals,bE.arrays,?_,?_,?_⟩,(b5.trans k9).le (by omega),?_⟩⟩
       ·intro x hx
        rcases List.mem_append.1 hx with hx | hx
        ·exact bE.fns x hx
        ·rw [mem_singleton] at hx;subst hx;exact ⟨b2,k4⟩
       ·intro x hx
        rcases List.mem_append.1 hx with hx | hx
        ·exact bE.trees x hx
        ·rw [mem_singleton] at hx;subst hx;exact k8
       ·simp only [length_append,length_cons,length_nil];have:=bE.len;omega
       ·simp only [lV,ay];omega
     ·rw [if_neg k3];exact ⟨_,_,rfl,.inr k3⟩
    ·rw [xu (bA.err c2) (by unfold fW at hf;omega)];simp only;rw [if_neg (bA.err c2)];exact ⟨_,_,rfl,.inr (bA.err c2)⟩
   ·rw [fo (bA.err a2),xu (bA.err a2) (by unfold fW at hf;omega)];simp only;rw [if_neg (bA.err a2)];exact ⟨_,_,rfl,.inr (bA.err a2)⟩
  ·rw [if_neg h2];exact ⟨_,_,rfl,.inr (bA.err (On.jw hp))⟩
theorem Gy {f:Nat}:∀ (G:Nat) (p:RS) (st:PS) (ts:List Tok),On p ts->qs ts->rF p.l->fW p<=f->An st->ts.length < G ->
  ∃ q dM,mh G f p st=some (q,dM)/\(q.code=0->An dM/\ay dM.trees<=ts.length+ay st.trees)
 | 0,p,st,ts,_,_,_,_,_,hG=>by omega
 | G+1,p,st,ts,hp,ho,hs,hf,bE,hG=>by
  cases ts with
  | nil =>
   rw [mh,if_neg (fun hc=>Sr hp hc.2)];exact ⟨p,st,rfl,fun _=>⟨bE,by simp⟩⟩
  | cons u r0 =>
   obtain ⟨q,dM,h1,h2⟩:=Sg hp ho hs hf bE;rw [pO hp h1];rw [length_cons] at hG
   rcases h2 with ⟨r,n,h3,h4,h5,h6⟩ | h3
   ·have hl:=h5.len;rw [length_cons] at hl;have pA:q.l=p.l:=h3.2.1;obtain ⟨q',Yr,k1,k2⟩:=Gy G q dM r h3.1 (h5.ok ho) (by rw [pA];exact hs) (by unfold fW at hf |-;rw [pA];exact hf) h4 (by omega);exact ⟨q',Yr,k1,fun hc=>by obtain ⟨k3,k4⟩:=k2 hc;exact ⟨k3,by rw [length_cons];omega⟩⟩
   ·exact ⟨q,dM,Gz h3 (by omega),fun hc=>absurd hc h3⟩
def nW (st:PS):List Fn:=st.fns.mapIdx fun i x=>⟨x.1,x.2,((ay (st.trees.take i):Nat):Int)⟩
def same (p:Src) (st:PS):Bool:=eO (fun x y=>x==y) p.globals st.globals&&(eO xT p.arrays st.arrays&&(eO qm p.fns (nW st)&&eO j0 p.nodes (dV 0 st.trees)))
structure Reads (x:ae) (ts:List Tok) (c z:Int) (q:RS) (st:PS):Prop where
 lex:l7 x (x.length+1) 0 []=some (ts,c,z)
 len:ts.length<=x.length
 read:mh (ts.length+1) (40 * ts.length+100) ⟨ts,0,(x.length:Int),0,0⟩ .empty=some (q,st)
 ok:q.code=0->An st/\ay st.trees<=ts.length
theorem reads (x:ae):∃ ts c z q st,Reads x ts c z q st:=by
 obtain ⟨ts,c,z,h1,h2,h3,h4⟩:=qD x (x.length+1) 0 [] (Nat.zero_le _) (by omega) (fun t h=>by simp at h) .nil (fun t h=>by simp at h) (Nat.le_refl _);have BQ:On ⟨ts,0,(x.length:Int),0,0⟩ ts:=⟨rfl,Nat.zero_le _,rfl,fun t ht=>(h2 t ht).kinds⟩;obtain ⟨q,st,h5,h6⟩:=Gy (f:=40 * ts.length+100) (ts.length+1) _ .empty ts BQ h2 h3 (Nat.le_refl _) ⟨rfl,rfl,fun x h=>(by cases h),fun x h=>(by cases h),rfl⟩ (by omega);exact ⟨ts,c,z,q,st,h1,h4,h5,fun h=>by obtain ⟨a,b⟩:=h6 h;exact ⟨a,by simpa [PS.empty,ay] using b⟩⟩
structure Forms (l:List T) (ls:List (List S)):Prop where
 len:ls.length=l.length
 at_:∀ (i:Nat) t b,l[i]?=some t->ls[i]?=some b->S.cB b=true/\er t=bB b
theorem Dd:∀ (l:List T),(∀ t∈l,BF t)->∃ ls,Forms l ls
 | [],_=>⟨[],rfl,fun i t b h=>by simp at h⟩
 | t::l,h=>by
  obtain ⟨b,h1,h2⟩:=h t mem_cons_self
  obtain ⟨ls,h3⟩:=Dd l fun u hu=>h u (mem_cons_of_mem _ hu)
  refine ⟨b::ls,by simp [h3.len],fun i t' b' k1 k2=>?_⟩
  cases i with
  | zero=>cases k1;cases k2;exact ⟨h1,h2⟩
  | succ i=>exact h3.at_ i t' b' (by simpa using k1) (by simpa using k2)
theorem ff.mem {Q:Fn->T->Prop}:∀ {fns:List Fn} {a:Nat} {l:List T},ff Q fns a l->(∀ f∈fns,∃ t∈l,Q f t)/\(∀ t∈l,∃ f∈fns,Q f t)
 | [],_,[],_=>⟨fun f h=>(by cases h),fun f h=>(by cases h)⟩
 | f::r,a,t::l,h=>by
  rw [ff] at h;obtain ⟨k1,k2⟩:=ff.mem h.2.2;refine ⟨fun g hg=>?_,fun u hu=>?_⟩
  ·rcases List.mem_cons.1 hg with rfl | hg
   ·exact ⟨t,mem_cons_self,h.2.1⟩
   ·obtain ⟨u,a,b⟩:=k1 g hg;exact ⟨u,mem_cons_of_mem _ a,b⟩
  ·rcases List.mem_cons.1 hu with rfl | hu
   ·exact ⟨f,mem_cons_self,h.2.1⟩
   ·obtain ⟨g,a,b⟩:=k2 u hu;exact ⟨g,mem_cons_of_mem _ a,b⟩
 | [],_,t::l,h=>by cases h
 | f::r,_,[],h=>by cases h
theorem fv.HU {p:Src} {l:List T} (h:fv p l):∃ ls,Forms l ls:=by
 refine Dd l fun t ht=>?_
 obtain ⟨f,_,h1⟩:=(ff.mem h.fns).2 t ht;exact Yu h1.all h1.kind
theorem fv.at_ {p:Src} {l:List T} (h:fv p l):lx l:=by
 have:∀ l:List T,(∀ t∈l,cV t=true)->lx l:=by
  intro l
  induction l with
  | nil=>intro _;trivial
  | cons t l ih=>intro h;rw [lx];exact ⟨Jo t (h t mem_cons_self),ih fun u hu=>h u (mem_cons_of_mem _ hu)⟩
 refine this l fun t ht=>?_
 obtain ⟨f,_,h1⟩:=(ff.mem h.fns).2 t ht;exact h1.all
theorem fv.Bx {p:Src} {l:List T} (h:fv p l):hY p.nodes p.fns 0 []=some (l,p.nodes.length):=by
 rw [FQ p.fns 0 [] l h.st h.fns h.at_,h.len];simp
theorem fv.k {p:Src} {l:List T} (h:fv p l):l.all fA=true:=by
 rw [all_eq_true];intro t ht;obtain ⟨f,_,h1⟩:=(ff.mem h.fns).2 t ht;exact Oh t h1.all
theorem J1 {l:List T} {ls:List (List S)} (h:Forms l ls):aI l=ls.map bB:=by
 rw [rn];apply List.ext_getElem?;intro i;rw [getElem?_map,getElem?_map];have hl:=h.len
 cases h1:l[i]? with
 | none =>
  rw [List.getElem?_eq_none_iff] at h1;rw [List.getElem?_eq_none_iff.2 (by omega)];rfl
 | some t =>
  have hi:=(List.getElem?_eq_some_iff.1 h1).1
  have h2:ls[i]?=some (ls[i]'(by omega)):=by simp [hl,hi]
  rw [h2];exact congrArg some (h.at_ i t _ h1 h2).2
theorem zip_fst {α β:Type}:∀ (a:List α) (b:List β),a.length=b.length->(a.zip b).map Prod.fst=a
 | [],[],_=>rfl
 | x::a,y::b,h=>by rw [zip_cons_cons,List.map_cons,zip_fst a b (by simpa using h)]
 | [],y::b,h=>by simp at h
 | x::a,[],h=>by simp at h
theorem Bp {α β:Type}:∀ (a:List α) (b:List β),a.length=b.length->(a.zip b).map Prod.snd=b
 | [],[],_=>rfl
 | x::a,y::b,h=>by rw [zip_cons_cons,List.map_cons,Bp a b (by simpa using h)]
 | [],y::b,h=>by simp at h
 | x::a,[],h=>by simp at h
theorem w9 (l:List T) (i:Nat):ay (l.take i)=ay ((aI l).take i):=by
 rw [rn,<-List.map_take,<-rn,uV]
theorem SM {p:Src} {l:List T} {l':List T} {ls:List (List S)} (h:fv p l) (he:aI l'=aI l):same p ⟨l',p.globals,p.arrays,p.fns.map fun x=>(x.name,x.params)⟩=true:=by
 unfold same;simp only [Bool.and_eq_true];refine ⟨pK (fun x=>by simp) _,pK (fun x=>by simp [xT]) _,?_,?_⟩
 ·have:nW ⟨l',p.globals,p.arrays,p.fns.map fun x=>(x.name,x.params)⟩=p.fns:=by
   unfold nW;apply List.ext_getElem?;intro i;simp only [List.getElem?_mapIdx,getElem?_map]
   cases hf:p.fns[i]? with
   | none=>rfl
   | some f =>
    have hlen:=ff.len h.fns;have hi:=(List.getElem?_eq_some_iff.1 hf).1
    have ht:l[i]?=some (l[i]'(by omega)):=by simp [<-hlen,hi]
    have hb:=(ff.at_ h.fns i f _ hf ht).1;rw [Nat.zero_add,w9,<-he,<-w9] at hb;simp only [Option.map_some];rw [<-hb]
  rw [this];refine pK (fun x=>?_) _;simp [qm,pK]
 ·rw [di.all h.st h.len];exact AN _ _ 0 he.symm
theorem Sj {p:Src} {l:List T} {ls:List (List S)} (h:fv p l) (hf:Forms l ls):l6 cD fb p l=db f2 (db a1 (db g1 [] p.globals) p.arrays) (p.fns.zip ls):=by
 unfold l6
 refine Jz _ _ _ _ hf.len fun i t b h1 h2=>?_
 obtain ⟨h3,h4⟩:=hf.at_ i t b h1 h2;rw [<-Ju,h4];exact ub b h3 0
theorem IW {p:Src} {l:List T} {ls:List (List S)} (h:fv p l) (hf:Forms l ls) {ts:List Tok} {c z:Int} {q:RS} {st:PS} (hr:Reads (l6 cD fb p l) ts c z q st) :
  c=0/\((ls.all fun b=>ea b 1)=true->q.code=0/\ay st.trees<=800/\same p st=true)/\((ls.all fun b=>ea b 1)=false->q.code≠0):=by
 have hx:=Sj h hf;have hlen:=ff.len h.fns;have ov:=hf.len
 have qY:∀ x∈p.fns.zip ls,Ta x:=by
  intro x hx;obtain ⟨f,b⟩:=x;obtain ⟨i,hi⟩:=List.getElem?_of_mem hx;rw [List.getElem?_zip_eq_some] at hi;have qV:=(List.getElem?_eq_some_iff.1 hi.2).1
  have ht:l[i]?=some (l[i]'(by omega)):=by simp [<-ov,qV]
  have h1:=(ff.at_ h.fns i f _ hi.1 ht).2;exact ⟨h1.name,h1.params,(hf.at_ i _ b ht hi.2).1⟩
 obtain ⟨us,h1,h2⟩:=Lp p.globals p.arrays (p.fns.zip ls) h.globals h.arrays qY;rw [<-hx] at h1;have h3:=P1 h1 rfl ((l6 cD fb p l).length+1) [] (by omega);rw [nil_append,hr.lex] at h3;simp only [Option.some.injEq,Prod.mk.injEq] at h3;obtain ⟨rfl,rfl,rfl⟩:=h3
 have Wd:rF ts:=by
  obtain ⟨gV,c',z',k1,k2,k3,k4⟩:=qD (l6 cD fb p l) ((l6 cD fb p l).length+1) 0 [] (Nat.zero_le _) (by omega) (fun t h=>by simp at h) .nil (fun t h=>by simp at h) (Nat.le_refl _);rw [hr.lex] at k1;cases k1;exact k3
 obtain ⟨h4,h5⟩:=h2 Wd ((l6 cD fb p l).length:Int) (ts.length+1) (40 * ts.length+100) (Nat.le_refl _) (Nat.le_refl _)
 have aM:((p.fns.zip ls).all fun x=>ea x.2 1)=ls.all fun b=>ea b 1:=by
  have:ls=(p.fns.zip ls).map Prod.snd:=(Bp _ _ (by omega)).symm
  conv=>rhs;rw [this]
  rw [List.all_map];rfl
 rw [aM] at h4 h5;refine ⟨rfl,fun tK=>?_,fun tK=>?_⟩
 ·obtain ⟨q',l',k1,k2,k3⟩:=h4 tK;rw [hr.read] at k1;simp only [Option.some.injEq,Prod.mk.injEq] at k1;obtain ⟨rfl,rfl⟩:=k1
  have e1:((p.fns.zip ls).map fun x=>bB x.2)=ls.map bB:=by
   have:ls=(p.fns.zip ls).map Prod.snd:=(Bp _ _ (by omega)).symm
   conv=>rhs;rw [this]
   rw [map_map];rfl
  have e2:((p.fns.zip ls).map fun x=>(x.1.name,x.1.params))=p.fns.map fun x=>(x.name,x.params):=by
   have:p.fns=(p.fns.zip ls).map Prod.fst:=(zip_fst _ _ (by omega)).symm
   conv=>rhs;rw [this]
   rw [map_map];rfl
  have he:aI l'=aI l:=by rw [k3,e1,J1 hf]
  refine ⟨k2,?_,?_⟩
  ·simp only;rw [<-uV,he,uV,h.len];exact h.few
  ·rw [e2];exact SM (ls:=ls) h he
 ·obtain ⟨q',dM,k1,k2⟩:=h5 tK;rw [hr.read] at k1;simp only [Option.some.injEq,Prod.mk.injEq] at k1;obtain ⟨rfl,rfl⟩:=k1;exact k2
theorem F4 {α:Type} {p:α->α->Bool} {a b:List α} (h:eO p a b=true) {x:α} (hx:x∈a):∃ y∈b,p x y=true:=by
 obtain ⟨i,hi⟩:=List.getElem?_of_mem hx;have hl:=xk h;have aq:=(List.getElem?_eq_some_iff.1 hi).1
 have hb:b[i]?=some (b[i]'(by omega)):=by simp [<-hl,aq]
 exact ⟨_,mem_of_getElem? hb,C7 hi hb h⟩
theorem II {p:Src} {l:List T} (hn:p.nodes.length<=800) (hb:hY p.nodes p.fns 0 []=some (l,p.nodes.length)) {st:PS} (eQ:An st) (hs:same p st=true):fv p l:=by
 obtain ⟨l',h1,h2,h3,h4,h5⟩:=Az _ _ _ _ _ hb;rw [nil_append] at h1;subst h1;unfold same at hs;simp only [Bool.and_eq_true] at hs;obtain ⟨s1,s2,s3,s4⟩:=hs
 have hz:ay l=p.nodes.length:=by omega
 have RL:=di.all h2 hz;rw [RL] at s4
 have hlen:l.length=st.trees.length:=by
  have a1:=ff.len h3;have a2:=xk s3;unfold nW at a2;rw [List.length_mapIdx] at a2;have:=eQ.len;omega
 have he:=Qm hlen s4
 have kz:∀ f∈p.fns,bg f.name=true/\b6 f.params=true:=by
  intro f hf;obtain ⟨g,hg,hp⟩:=F4 s3 hf;unfold nW at hg;obtain ⟨i,hi⟩:=List.getElem?_of_mem hg;rw [List.getElem?_mapIdx] at hi
  cases hx:st.fns[i]? with
  | none=>rw [hx] at hi;cases hi
  | some x =>
   rw [hx] at hi;cases hi;simp only [qm,Bool.and_eq_true,beq_iff_eq] at hp;obtain ⟨⟨k1,k2⟩,_⟩:=hp;obtain ⟨k3,k4⟩:=eQ.fns x (mem_of_getElem? hx);rw [k1,xj k2];exact ⟨k3,k4⟩
 have U0:∀ t∈l,t.n.kind=14/\cV t=true:=by
  intro t ht
  have h6:er t∈aI l:=by rw [rn];exact List.mem_map_of_mem ht
  rw [he,rn] at h6;obtain ⟨u,hu,h7⟩:=List.mem_map.1 h6;obtain ⟨b,k1,k2⟩:=eQ.trees u hu;rw [h7] at k2
  have vP:vX t:=by
   have:∀ l:List T,lx l->t∈l->vX t:=by
    intro l
    induction l with
    | nil=>intro _ h;cases h
    | cons v l ih =>
     intro h hm;rw [lx] at h
     rcases List.mem_cons.1 hm with rfl | hm
     ·exact h.1
     ·exact ih h.2 hm
   exact this l h5 ht
  refine ⟨?_,Jp t (by rw [k2];exact S.uc b k1) vP⟩;have:=congrArg (fun x=>x.n.kind) k2;simp only [wb] at this;exact this
 refine ⟨?_,?_,h2,ff.mono h3 fun f t hf ht _=>⟨(kz f hf).1,(kz f hf).2,(U0 t ht).1,(U0 t ht).2⟩,hz,hn⟩
 ·rw [xj s1];exact eQ.globals
 ·rw [all_eq_true];intro a ha;obtain ⟨b,hb,hp⟩:=F4 s2 ha;have h6:=List.all_eq_true.1 eQ.arrays b hb;simp only [xT,Bool.and_eq_true,beq_iff_eq] at hp;unfold nw at h6 |-;rw [hp.1,hp.2];exact h6
end Go.Im
namespace Go.Im
open Go.Xp Go.Sp
def aY {α:Type} (f:α->Nat):List α->Nat
 | []=>0
 | x::l=>f x+aY f l
theorem y9 {α:Type} (f:α->Nat) (a b:List α):aY f (a++b)=aY f a+aY f b:=by
 induction a with
 | nil=>simp [aY]
 | cons x a ih=>simp only [cons_append,aY,ih];omega
theorem Qt {α:Type} {f g:α->Nat} {l:List α} (h:∀ x∈l,f x<=g x):aY f l<=aY g l:=by
 induction l with
 | nil=>exact Nat.le_refl _
 | cons x l ih =>
  have h1:=h x mem_cons_self
  have h2:=ih fun y hy=>h y (mem_cons_of_mem _ hy)
  simp only [aY];omega
theorem mN {α:Type} {f:α->Nat} {l:List α} {x:α} (h:x∈l):f x<=aY f l:=by
 induction l with
 | nil=>cases h
 | cons y l ih =>
  rw [aY]
  rcases List.mem_cons.1 h with rfl | h
  ·omega
  ·have:=ih h;omega
theorem mM {α:Type} {f g:α->Nat} {k:Nat} {l:List α} (h:∀ x∈l,f x<=k * g x):aY f l<=k * aY g l:=by
 induction l with
 | nil=>exact Nat.zero_le _
 | cons x l ih =>
  have h1:=h x mem_cons_self
  have h2:=ih fun y hy=>h y (mem_cons_of_mem _ hy)
  simp only [aY,Nat.mul_add];omega
theorem sF {α:Type} (f:α->Nat) (l:List α) (h:∀ x∈l,1<=f x):l.length<=aY f l:=by
 induction l with
 | nil=>exact Nat.zero_le _
 | cons x l ih =>
  have h1:=h x mem_cons_self
  have h2:=ih fun y hy=>h y (mem_cons_of_mem _ hy)
  rw [aY,length_cons];omega
theorem Ez {α β:Type} (f:α->Nat) (g:β->Nat):∀ (a:List α) (b:List β),aY (fun x:α × β=>f x.1+g x.2) (a.zip b)<=aY f a+aY g b
 | [],b=>by simp [aY]
 | x::a,[]=>by simp [aY]
 | x::a,y::b=>by
  have:=Ez f g a b;simp only [zip_cons_cons,aY] at *;omega
theorem va {α:Type} (f:α->ae):∀ (l:List α) (acc:ae),(db f acc l).length=acc.length+aY (fun x=>(f x).length) l
 | [],acc=>by simp [db,aY]
 | x::l,acc=>by rw [db,va f l,length_append,aY];omega
def rf (n:Nd):Nat:=n.s.length+60
mutual
theorem S9:∀ (t:T) (a:Nat),iY t=aY rf (lj a t)
 | .mk n l,a=>by rw [iY,lj,aY,xK l (a+1),rf]
theorem xK:∀ (l:List T) (a:Nat),fx l=aY rf (dV a l)
 | [],a=>rfl
 | t::r,a=>by rw [fx,dV,y9,S9 t a,xK r (a+aD t)]
end
def wi (l:List T) (i:Nat):Nat:=match l[i]? with | some t=>iY t | none=>0
theorem Wy (l:List T):wi l 0+wi l 1+wi l 2<=fx l:=by
 match l with
 | []=>simp [wi]
 | [a]=>simp only [wi,fx];simp
 | [a,b]=>simp only [wi,fx];simp
 | a::b::c::r=>simp only [wi,fx];simp;omega
theorem Gf {l:List T} {f:T->ae} (h:∀ t∈l,(f t).length<=iY t) (i:Nat):((l.map f).getD i []).length<=wi l i:=by
 rw [List.getD_eq_getElem?_getD,getElem?_map];unfold wi
 cases hi:l[i]? with
 | none=>simp
 | some t=>exact h t (mem_of_getElem? hi)
theorem Hj {l:List T} {t:T} (h:t∈l):aD t<=ay l:=by
 induction l with
 | nil=>cases h
 | cons a l ih =>
  rw [ay]
  rcases List.mem_cons.1 h with rfl | h
  ·omega
  ·have:=ih h;omega
theorem Hh {f:T->ae}:∀ {l:List T},(∀ t∈l,(f t).length+4<=iY t)->jF (l.map f)<=fx l
 | [],_=>Nat.zero_le _
 | t::l,h=>by
  have h1:=h t mem_cons_self
  have h2:=Hh (l:=l) fun y hy=>h y (mem_cons_of_mem _ hy)
  rw [List.map_cons,jF,fx];omega
theorem SR:∀ (N:Nat) (t:T),aD t<=N->oc t->∀ d,(jq cD fb d t).length+4<=iY t/\(mc cD fb d t).length<=iY t:=by
 intro N
 induction N with
 | zero=>intro t h;have:=gP t;omega
 | succ N ih =>
  intro t hN hn d;have b8:=eh t;rw [pX] at hn
  have hk:∀ a∈t.kids,∀ d,(jq cD fb d a).length+4<=iY a/\(mc cD fb d a).length<=iY a:=fun a ha d=>ih a (by have:=Hj ha;omega) (iV hn.2 ha) d
  have hx:=Gf (l:=t.kids) (f:=cD) (fun a ha=>by have:=uX (aD a) a (Nat.le_refl _) (iV hn.2 ha);omega);have hb:=Gf (l:=t.kids) (f:=mc cD fb d) (fun a ha=>(hk a ha d).2);have h3:=Wy t.kids;have hw:=nV t;have fT:=uX (aD t) t (Nat.le_refl _) ((pX t).2 hn);have x0:=hx 0;have x1:=hx 1;have b1:=hb 1;have b2:=hb 2;constructor
  ·rw [LC,FP];unfold vV;split
   ·simp only [length_append,length_cons,length_nil];omega
   split
   ·simp only [length_append,length_cons,length_nil];omega
   split
   ·simp only [length_append,length_cons,length_nil];omega
   split
   ·split
    ·simp only [length_append,length_cons,length_nil];omega
    ·simp only [length_append,length_cons,length_nil];omega
   split
   ·simp only [length_append,length_cons,length_nil];omega
   split
   ·simp only [length_append,length_cons,length_nil];omega
   split
   ·simp only [length_append,length_cons,length_nil];omega
   ·omega
  ·rw [Jt,Hf]
   have:=Hh (f:=jq cD fb (d+1)) (l:=t.kids) fun a ha=>(hk a ha (d+1)).1
   have e:∀ l:List ae,(fb l d).length=3+jF l:=fun l=>by
    unfold fb;rw [length_append,rK];simp only [length_cons,length_nil];omega
   rw [e];omega
def wS (l:List ae):Nat:=aY (fun s=>s.length+1) l
def ek (p:Src):Nat:=wS p.globals+aY (fun a:Ar=>a.name.length+1) p.arrays+aY (fun f:Fn=>f.name.length+wS f.params+1) p.fns+aY (fun n:Nd=>n.s.length+n.kids.length+1) p.nodes
structure rE (p:Src):Prop where
 arrays:∀ a∈p.arrays,-9223372036854775808<=a.size/\a.size<=9223372036854775807
 nodes:∀ n∈p.nodes,-9223372036854775808<=n.n/\n.n<=9223372036854775807
mutual
theorem dx.num {nodes:List Nd} (h:∀ n∈nodes,-9223372036854775808<=n.n/\n.n<=9223372036854775807):∀ (t:T) (a:Nat),dx nodes a t->oc t
 | .mk n l,a,hs=>by
  rw [dx] at hs;rw [oc];exact ⟨h n (mem_of_getElem? hs.1),di.num h l _ hs.2.2⟩
theorem di.num {nodes:List Nd} (h:∀ n∈nodes,-9223372036854775808<=n.n/\n.n<=9223372036854775807):∀ (l:List T) (a:Nat),di nodes a l->oZ l
 | [],a,_=>trivial
 | t::r,a,hs=>by
  rw [di] at hs;rw [oZ];exact ⟨dx.num h t a hs.1,di.num h r _ hs.2⟩
end
theorem NN (l:List ae):(l.map fun y=>y.length+2).sum=aY (fun s=>s.length+2) l:=by
 induction l with
 | nil=>rfl
 | cons s l ih=>rw [List.map_cons,sum_cons,ih,aY]
theorem ER (l:List T):fx l=aY iY l:=by
 induction l with
 | nil=>rfl
 | cons t l ih=>rw [fx,aY,ih]
theorem PT {p:Src} {l:List T} (hn:rE p) (hs:di p.nodes 0 l) (hz:ay l=p.nodes.length):(l6 cD fb p l).length<=100 * ek p:=by
 have gI:=di.num hn.nodes l 0 hs
 have e1:aY (fun s=>(g1 s).length) p.globals<=100 * wS p.globals:=mM fun s _=>by simp only [g1,length_append,length_cons,length_nil];omega
 have e2:aY (fun a=>(a1 a).length) p.arrays<=100 * aY (fun a:Ar=>a.name.length+1) p.arrays:=mM fun a ha=>by
  have:=wM (hn.arrays a ha);simp only [a1,length_append,length_cons,length_nil];omega
 have e3:aY (fun x=>(f1 cD fb x).length) (p.fns.zip l)<=aY (fun x:Fn × T=>(fun f:Fn=>100 * (f.name.length+wS f.params+1)) x.1+iY x.2) (p.fns.zip l):=Qt fun x hx=>by
  have h1:=(SR (aD x.2) x.2 (Nat.le_refl _) (iV gI (List.of_mem_zip hx).2) 0).2;have h2:=yQ x.1.params;rw [NN] at h2
  have h3:aY (fun s=>s.length+2) x.1.params<=2 * wS x.1.params:=mM fun s _=>by omega
  simp only [f1,length_append,length_cons,length_nil];omega
 have e4:=Ez (fun f:Fn=>100 * (f.name.length+wS f.params+1)) iY p.fns l
 have e5:aY (fun f:Fn=>100 * (f.name.length+wS f.params+1)) p.fns<=100 * aY (fun f:Fn=>f.name.length+wS f.params+1) p.fns:=mM fun f _=>Nat.le_refl _
 have e6:aY rf p.nodes<=100 * aY (fun n:Nd=>n.s.length+n.kids.length+1) p.nodes:=mM fun n _=>by unfold rf;omega
 have e7:aY iY l=aY rf p.nodes:=by rw [<-ER,xK l 0,<-di.all hs hz]
 unfold l6 ek;rw [va,va,va];simp only [length_nil];have e8:=Nat.le_trans e3 e4;generalize aY (fun x=>(f1 cD fb x).length) (p.fns.zip l)=v3 at *;generalize aY (fun s=>(g1 s).length) p.globals=v1 at *;generalize aY (fun a=>(a1 a).length) p.arrays=v2 at *;omega
theorem EJ {p:Src} {l:List T} (hs:di p.nodes 0 l) (hz:ay l=p.nodes.length):∀ t∈l,iY t<=100 * ek p/\aD t<=ek p:=fun t ht=>by
 have e6:aY rf p.nodes<=100 * aY (fun n:Nd=>n.s.length+n.kids.length+1) p.nodes:=mM fun n _=>by unfold rf;omega
 have e7:aY iY l=aY rf p.nodes:=by rw [<-ER,xK l 0,<-di.all hs hz]
 have e8:=mN (f:=iY) ht;have e9:=Hj ht
 have UB:=sF (fun n:Nd=>n.s.length+n.kids.length+1) p.nodes fun n _=>by omega
 unfold ek;omega
theorem EM (l:List ae):l.length<=wS l:=sF _ l fun s _=>by omega
theorem LX {l:List ae} {s:ae} (h:s∈l):s.length+1<=wS l:=mN (f:=fun s:ae=>s.length+1) h
structure Small (p:Src) (n:Nat):Prop where
 globals:p.globals.length<=n/\∀ s∈p.globals,s.length<=n
 arrays:p.arrays.length<=n/\∀ a∈p.arrays,a.name.length<=n
 fns:p.fns.length<=n/\∀ f∈p.fns,f.name.length<=n/\f.params.length<=n/\∀ s∈f.params,s.length<=n
 nodes:p.nodes.length<=n/\∀ x∈p.nodes,x.s.length<=n/\x.kids.length<=n
theorem ja (p:Src):Small p (ek p):=by
 have a1:=EM p.globals
 have a2:=sF (fun a:Ar=>a.name.length+1) p.arrays fun a _=>by omega
 have a3:=sF (fun f:Fn=>f.name.length+wS f.params+1) p.fns fun a _=>by omega
 have a4:=sF (fun n:Nd=>n.s.length+n.kids.length+1) p.nodes fun a _=>by omega
 unfold ek;refine ⟨⟨by omega,fun s hs=>?_⟩,⟨by omega,fun a ha=>?_⟩,⟨by omega,fun f hf=>?_⟩,⟨by omega,fun n hn=>?_⟩⟩
 ·have:=LX hs;omega
 ·have:=mN (f:=fun a:Ar=>a.name.length+1) ha;omega
 ·have:=mN (f:=fun f:Fn=>f.name.length+wS f.params+1) hf;refine ⟨by omega,by have:=EM f.params;omega,fun s hs=>by have:=LX hs;omega⟩
 ·have:=mN (f:=fun n:Nd=>n.s.length+n.kids.length+1) hn;exact ⟨by omega,by omega⟩
structure yv (st:PS) (n:Nat):Prop where
 globals:st.globals.length<=n
 arrays:st.arrays.length<=n
 fns:st.fns.length<=n
 params:∀ x∈st.fns,x.2.length<=n
theorem KJ:∀ (f:Nat) (acc:List ae) (p:RS) (l:List ae) (q:RS),nP f acc p=some (l,q)->l.length<=acc.length+f
 | 0,_,_,_,_,h=>by cases h
 | f+1,acc,p,l,q,h=>by
  rw [nP] at h;split at h
  ·have:=KJ f _ _ l q h;rw [length_append,length_cons,length_nil] at this;omega
  ·cases h;omega
theorem yv.up {st:PS} {n:Nat} (h:yv st n):yv st (n+1):=by
 obtain ⟨a,b,c,d⟩:=h;exact ⟨by omega,by omega,by omega,fun x hx=>by have:=d x hx;omega⟩
theorem TM {f n:Nat} {p q:RS} {st dM:PS} (hf:f<=n) (h:iW f p st=some (q,dM)) (hs:yv st n):yv dM (n+1):=by
 have key:=hs.up;obtain ⟨a,b,c,d⟩:=hs;unfold iW at h;split at h
 ·split at h
  ·split at h
   ·cases h;exact ⟨by simp;omega,by simp;omega,by simp;omega,fun x hx=>by have:=d x hx;omega⟩
   ·cases h;exact key
  ·cases h;exact ⟨by simp;omega,by simp;omega,by simp;omega,fun x hx=>by have:=d x hx;omega⟩
 ·split at h
  ·cases hm:nP f [] (want (bf p.next) [40]) with
   | none=>rw [hm] at h;cases h
   | some r =>
    obtain ⟨l,q1⟩:=r;rw [hm] at h;simp only at h;have hl:=KJ _ _ _ _ _ hm;split at h
    ·split at h
     ·cases h
     ·cases h;refine ⟨by simp;omega,by simp;omega,by simp;omega,fun x hx=>?_⟩
      rcases List.mem_append.1 hx with hx | hx
      ·have:=d x hx;omega
      ·rw [mem_singleton] at hx;subst hx;simp at hl |-;omega
    ·cases h;exact key
  ·cases h;exact key
theorem KL {f:Nat}:∀ (G n:Nat) (p q:RS) (st dM:PS),f<=n->mh G f p st=some (q,dM)->yv st n->yv dM (n+G)
 | 0,n,p,q,st,dM,_,h,_=>by cases h
 | G+1,n,p,q,st,dM,hf,h,hs=>by
  rw [mh] at h;split at h
  ·cases hw:iW f p st with
   | none=>rw [hw] at h;cases h
   | some r =>
    obtain ⟨q1,s1⟩:=r;rw [hw] at h;simp only at h;have:=KL G (n+1) q1 q s1 dM (by omega) h (TM hf hw hs);rw [show n+(G+1)=n+1+G by omega];exact this
  ·cases h;obtain ⟨a,b,c,d⟩:=hs;exact ⟨by omega,by omega,by omega,fun x hx=>by have:=d x hx;omega⟩
mutual
theorem MG:∀ (t:T) (a:Nat),∀ n∈lj a t,n.kids.length<=aD t
 | .mk m l,a,n,h=>by
  rw [lj] at h;rw [aD]
  rcases List.mem_cons.1 h with rfl | h
  ·simp only [c6];have:=cK l;omega
  ·have:=yD l (a+1) n h;omega
theorem yD:∀ (l:List T) (a:Nat),∀ n∈dV a l,n.kids.length<=ay l
 | [],a,n,h=>by rw [dV] at h;cases h
 | t::r,a,n,h=>by
  rw [dV] at h;rw [ay]
  rcases List.mem_append.1 h with h | h
  ·have:=MG t a n h;omega
  ·have:=yD r _ n h;omega
end
end Go.Im
namespace Go.Sp
open Go.Xp
structure CO (p:Src) (ls:List (List S)):Prop where
 len:ls.length=p.fns.length
 at_:∀ (i:Nat) f l,p.fns[i]?=some f->ls[i]?=some l->0<=f.body/\S.cB l=true/\wt (bB l)<=1000000000/\∃ t,sub p.nodes (fN p.nodes) f.body.toNat=some t/\er t=bB l
theorem Qa (a:E) (ho:a.ok=true):(a.txt).length+4<=wt a.tree:=(E.len a ho).1
theorem Pm {l:List S} (ho:S.cB l=true) (hw:wt (bB l)<=1000000000) :
  ∃ ts t q f,Go.Sp.gQ (eI E.txt l)=some ts/\(eI E.txt l).length<=1000000000/\ts.length<=1000000000/\1+f<=1099511627776/\mS f (.block 1) ⟨ts,0,(eI E.txt l).length,0,0⟩=some (t,q)/\q.l=ts/\((q.code=0/\q.i=ts.length/\ea l 1=true)\/(q.code≠0/\ea l 1=false)):=by
 have hlen:=ri E.txt Qa ho;generalize hx:eI E.txt l=x at *;obtain ⟨ts,h1,h2⟩:=(GR ho).all;rw [hx] at h2;have h3:=h2.len;have BQ:On ⟨ts,0,x.length,0,0⟩ ts:=⟨rfl,Nat.zero_le _,rfl,h2.kinds⟩;have bO:rs (x.length:Int) (lJ ts) (.block 1) ts≠.error aR:=u6;obtain ⟨t,q,h4,h5⟩:=(js (lJ ts)).block 1 ts _ BQ bO;have RV:=CZ (e:=(x.length:Int)) (d:=1) (rest:=[]) ho h1;rw [append_nil] at RV
 change ic _ q t (block (x.length:Int) 1 ts) at h5
 refine ⟨ts,t,q,KF (lJ ts),h2.all,by omega,by omega,by unfold KF lJ;omega,h4 _ (Nat.le_refl _),?_⟩
 cases hf:ea l 1 with
 | true =>
  obtain ⟨t',_,h6⟩:=RV.1 hf;rw [h6] at h5;obtain ⟨_,h7,h8,_⟩:=h5;have h8:q.l=ts:=h8;refine ⟨h8,.inl ⟨h7.code,?_,rfl⟩⟩;have hr:=congrArg List.length h7.rest;have hle:=h7.le;rw [length_drop] at hr;rw [h8] at hr hle;simp only [length_nil] at hr;omega
 | false =>
  obtain ⟨pos,h6⟩:=RV.2 hf;rw [h6] at h5;exact ⟨h5.2.2.2.1,.inr ⟨bA.err h5,rfl⟩⟩
end Go.Sp
namespace Go.Im
open Go.Xp Go.Sp
def IH (p:Src) (x:ae):Bool:=match l7 x (x.length+1) 0 [] with
 | none=>false
 | some (ts,c,z)=>if c≠0 then false else match mh (ts.length+1) (40 * ts.length+100) ⟨ts,0,(x.length:Int),0,0⟩ .empty with
  | none=>false
  | some (q,st)=>if q.code≠0 then false else if ay st.trees > 800 then false else same p st
def fI (p:Src):Bool:=if p.nodes.length > 800 then false else match hY p.nodes p.fns 0 [] with
 | none=>false
 | some (l,e)=>if e≠p.nodes.length then false else if l.all fA=false then false else IH p (l6 cD fb p l)
theorem yX {p:Src} {x:ae} {ts:List Tok} {c z:Int} {q:RS} {st:PS} (h:Reads x ts c z q st):IH p x=if c≠0 then false else if q.code≠0 then false else if ay st.trees > 800 then false else same p st:=by
 unfold IH;rw [h.lex];simp only;rw [h.read]
theorem Vz {p:Src} {l:List T} {ls:List (List S)} (h:fv p l) (hf:Forms l ls):fI p=ls.all fun b=>ea b 1:=by
 unfold fI;have h8:=h.few;rw [if_neg (by omega),h.Bx];simp only;rw [if_neg (by simp),if_neg (by rw [h.k];decide)];obtain ⟨ts,c,z,q,st,hr⟩:=reads (l6 cD fb p l);obtain ⟨h1,h2,h3⟩:=IW h hf hr;rw [yX hr,if_neg (by simpa using h1)]
 cases hb:ls.all fun b=>ea b 1 with
 | false=>rw [if_pos (h3 hb)]
 | true =>
  obtain ⟨k1,k2,k3⟩:=h2 hb;rw [if_neg (by simpa using k1),if_neg (by omega),k3]
theorem qw {p:Src} (h:fI p=true):∃ l,fv p l:=by
 unfold fI at h
 by_cases h8:p.nodes.length > 800
 ·rw [if_pos h8] at h;cases h
 rw [if_neg h8] at h
 cases hb:hY p.nodes p.fns 0 [] with
 | none=>rw [hb] at h;cases h
 | some y =>
  obtain ⟨l,e⟩:=y;rw [hb] at h;simp only at h
  by_cases he:e=p.nodes.length
  ·subst he;rw [if_neg (by simp)] at h
   by_cases hk:l.all fA=false
   ·rw [if_pos hk] at h;cases h
   rw [if_neg hk] at h;obtain ⟨ts,c,z,q,st,hr⟩:=reads (l6 cD fb p l);rw [yX hr] at h;split at h
   ·cases h
   split at h
   ·cases h
   ·rename_i hc;split at h
    ·cases h
    ·exact ⟨l,II (by omega) hb (hr.ok (by simpa using hc)).1 h⟩
  ·rw [if_pos he] at h;cases h
theorem Vy {p:Src} (h:ni p=some false):fI p=false:=by
 cases hf:fI p with
 | false=>rfl
 | true =>
  obtain ⟨l,h1⟩:=qw hf;rw [h1.ni] at h;cases h
theorem di.ix {nodes:List Nd}:∀ (l:List T) (a i:Nat) (t:T),di nodes a l->l[i]?=some t->dx nodes (a+ay (l.take i)) t
 | [],a,i,t,_,h=>by simp at h
 | u::r,a,0,t,h,hi=>by
  cases hi;rw [di] at h;exact h.1
 | u::r,a,i+1,t,h,hi=>by
  rw [di] at h;have:=di.ix r (a+aD u) i t h.2 (by simpa using hi);rw [take_succ_cons,ay,<-Nat.add_assoc];exact this
mutual
theorem Mc:∀ t:T,wt t<=iY t
 | .mk n l=>by have:=ES l;rw [wt,iY];omega
theorem ES:∀ l:List T,ep l<=fx l
 | []=>Nat.le_refl _
 | t::r=>by have:=Mc t;have:=ES r;rw [ep,fx];omega
end
theorem Jv {p:Src} {l:List T} {ls:List (List S)} (h:fv p l) (hf:Forms l ls) (hw:ek p<=1048576):CO p ls:=by
 have hl:=ff.len h.fns;refine ⟨by rw [hf.len];omega,fun i f b h1 h2=>?_⟩;have hi:=(List.getElem?_eq_some_iff.1 h2).1;have hlen:=hf.len
 have ht:l[i]?=some (l[i]'(by omega)):=by simp [<-hlen,hi]
 obtain ⟨h3,h4⟩:=hf.at_ i _ b ht h2;obtain ⟨h5,h6⟩:=ff.at_ h.fns i f _ h1 ht;have h7:=di.ix l 0 i _ h.st ht;rw [Nat.zero_add] at h5 h7;have hm:=mem_of_getElem? ht;have h8:=EJ h.st h.len _ hm;have h9:=Mc (l[i]'(by omega));have ky:=dx.le _ _ h7;refine ⟨by omega,h3,by rw [<-h4,Pc];omega,_,?_,h4⟩;rw [h5,Int.toNat_natCast];exact (uU _).1 _ _ h7 (by unfold fN;omega)
theorem mP {α:Type} (f:α->Nat) (l:List α) (k:Nat):aY f (l.take k)<=aY f l:=by
 have:aY f l=aY f (l.take k)+aY f (l.drop k):=by rw [<-y9,take_append_drop]
 omega
structure YF (p:Src) (i:Nat) (u:T) (a:E):Prop where
 ok:a.ok=true
 er:er u=a.tree
 sub:sub p.nodes (fN p.nodes) i=some u
 tr:∃ e,nt p.nodes (p.nodes.length - i+1) i=some (u,e)
 k:fA u=true
 num:oc u
 wt:iY u<=100 * ek p
 txt:cD u=a.txt
end Go.Im
namespace Go.Im
open Go.Xp Go.Sp
end Go.Im
namespace Go.Im
open Go.Xp Go.Sp
def qZ (w left:Nat):Int:=if w<=left then ((left - w:Nat):Int) else -1
theorem fP {w left:Nat} (h:w<=left):qZ w left=((left - w:Nat):Int):=by unfold qZ;rw [if_pos h]
theorem dF {w left:Nat} (h:left < w):qZ w left = -1:=by unfold qZ;rw [if_neg (by omega)]
theorem mO {α:Type} (w:α->Nat) (l:List α):aY (fun x=>w x+1) l=l.length+aY w l:=by
 induction l with
 | nil=>rfl
 | cons x l ih=>rw [aY,ih,aY,length_cons];omega
theorem ke {α:Type} {w:α->Nat} {l:List α} {k:Nat} {x:α} (h:l[k]?=some x):aY w (l.take (k+1))=aY w (l.take k)+w x:=by
 have:l.take (k+1)=l.take k++[x]:=by rw [List.take_add_one,h];rfl
 rw [this,y9,aY,aY];rfl
theorem kr {α β:Type} {f:α->β} {l:List α} {k:Nat} {x:α} {Z:β} (h:l[k]?=some x):((l.take k).map f++List.replicate (l.length - k) Z).set k (f x)=(l.take (k+1)).map f++List.replicate (l.length - (k+1)) Z:=by
 have hk:=(List.getElem?_eq_some_iff.1 h).1
 have ht:l.take (k+1)=l.take k++[x]:=by rw [List.take_add_one,h];rfl
 have hl:((l.take k).map f).length=k:=by rw [length_map,length_take];omega
 rw [show l.length - k=(l.length - (k+1))+1 by omega,List.replicate_succ,List.set_append_right _ _ (by omega),hl,Nat.sub_self,List.set_cons_zero,ht,List.map_append];simp
theorem kq {α β:Type} {f:α->β} {l:List α} {k:Nat} {Z:β} (h:k<=l.length):((l.take k).map f++List.replicate (l.length - k) Z).length=l.length:=by
 rw [length_append,length_map,length_take,List.length_replicate];omega
theorem kp {α β:Type} {f:α->β} {l:List α} {Z:β}:(l.take l.length).map f++List.replicate (l.length - l.length) Z=l.map f:=by
 rw [List.take_length,Nat.sub_self];simp
end Go.Im
namespace Go.Im
open Go.Xp Go.Sp
end Go.Im
namespace Go.Im
open Go.Xp Go.Sp
theorem Bv {p:Src} {l:List T} (h:fv p l):∀ a∈p.arrays,0<=a.size/\a.size<=2147483647:=fun a ha=>by
 have:=List.all_eq_true.1 h.arrays a ha;unfold nw at this;simp only [Bool.and_eq_true,Bool.not_eq_true',decide_eq_false_iff_not] at this;omega
end Go.Im
namespace Go.Im
open Go.Xp Go.Sp
end Go.Im
namespace Go.Im
open Go.Xp Go.Sp
end Go.Im
