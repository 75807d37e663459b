/- Part 2 of proofs that are told in their last texts. -/
import Derived.Test.YtcoplmnahnipiaaGreatDoorY1
open List (all_cons all_eq_true any_eq_true append_assoc append_nil cons_append contains_iff_mem drop_left eq_nil_of_length_eq_zero find?_eq_none flatMap_cons foldl_cons getElem?_map getElem?_take length_append length_cons length_drop length_map length_nil length_take map_map mem_cons_of_mem mem_cons_self mem_of_getElem? mem_singleton nil_append sum_cons tail_cons take_append_drop take_succ_cons take_zero zip_cons_cons)
set_option linter.unusedVariables false
set_option linter.unusedSimpArgs false
set_option maxRecDepth 100000
namespace Go.Xp
open Go.Sp (bf ek)
section
variable {e:Int} {d:Nat} {ts rest:List Tok} {Q:T->Prop} {b:Bool}
theorem S.head {s:S} (ho:s.ok=true) (ht:ts.map kf=s.tk):∃ t r,ts=t::r/\∀ rest,sign (t::rest) 0≠dY/\sign (t::rest) 0≠[125]:=by
 cases s with
 | set s a =>
  rw [S.tk] at ht;obtain ⟨t,r,rfl,h1,_⟩:=map_cons ht;obtain ⟨h1,_⟩:=pF h1;exact ⟨t,r,rfl,fun rest=>⟨ia h1 (by decide),ia h1 (by decide)⟩⟩
 | put s a b =>
  rw [S.tk] at ht;obtain ⟨t,r,rfl,h1,_⟩:=map_cons ht;obtain ⟨h1,_⟩:=pF h1;exact ⟨t,r,rfl,fun rest=>⟨ia h1 (by decide),ia h1 (by decide)⟩⟩
 | if1 c b =>
  rw [S.tk] at ht;obtain ⟨t,r,rfl,h1,_⟩:=map_cons ht;exact ⟨t,r,rfl,fun rest=>by rw [sf h1];decide⟩
 | if2 c b b2 =>
  rw [S.tk] at ht;obtain ⟨t,r,rfl,h1,_⟩:=map_cons ht;exact ⟨t,r,rfl,fun rest=>by rw [sf h1];decide⟩
 | while_ c b =>
  rw [S.tk] at ht;obtain ⟨t,r,rfl,h1,_⟩:=map_cons ht;exact ⟨t,r,rfl,fun rest=>by rw [sf h1];decide⟩
 | ret a =>
  rw [S.tk] at ht;obtain ⟨t,r,rfl,h1,_⟩:=map_cons ht;exact ⟨t,r,rfl,fun rest=>by rw [sf h1];decide⟩
 | var s a =>
  rw [S.tk] at ht;obtain ⟨t,r,rfl,h1,_⟩:=map_cons ht;exact ⟨t,r,rfl,fun rest=>by rw [sf h1];decide⟩
 | do_ a =>
  simp only [S.ok] at ho;obtain ⟨k0,r0,hh,hf⟩:=E.head a ho;rw [S.tk,hh] at ht;obtain ⟨t,r,rfl,h1,_⟩:=map_cons ht;refine ⟨t,r,rfl,fun rest=>?_⟩
  rcases AF (r:=rest) (by rw [h1];exact hf) with h | h | h | h | h <;> (rw [h];decide)
def qK (l:List S):Prop:=∀ (e:Int) (d:Nat) (acc:List T) (ts rest:List Tok) (u:Tok),S.cD l=true->ts.map kf=S.l7 l->u.kind=3->u.s=[125] ->
 (S.fits l d=true->∃ ys,aI ys=S.trees l/\Eb e d acc (ts++u::rest) (.ok (acc++ys,rest)))/\(S.fits l d=false->∃ pos,Eb e d acc (ts++u::rest) (.error (9,pos)))
theorem LQ:qK []:=by
 intro e d acc ts rest u _ ht hu fo
 have:ts=[]:=by simpa [S.l7] using ht
 subst this;refine ⟨fun _=>⟨[],rfl,1,fun f hf=>?_⟩,fun h=>by simp [S.fits] at h⟩;obtain ⟨f,rfl⟩:∃ g,f=g+1:=⟨f - 1,by omega⟩;rw [rs.body,if_pos (by exact tl hu fo),append_nil];rfl
theorem JP {a:S} {l:List S} (Ca:qL a) (Cl:qK l):qK (a::l):=by
 intro e d acc ts rest u ho ht hu fo;simp only [S.cD,Bool.and_eq_true] at ho;rw [S.l7] at ht;obtain ⟨A,B,rfl,h3,h4⟩:=cV ht;obtain ⟨t,r,rfl,hh⟩:=S.head ho.1 h3
 have bK:sign (B++u::rest) 0≠dY:=by
  cases l with
  | nil =>
   have:B=[]:=by simpa [S.l7] using h4
   subst this;rw [nil_append,tl hu fo];decide
  | cons a' l' =>
   simp only [S.cD,Bool.and_eq_true] at ho;rw [S.l7] at h4;obtain ⟨A',B',rfl,h5,h6⟩:=cV h4;obtain ⟨t',r',rfl,Zw⟩:=S.head ho.2.1 h5;exact (Zw _).1
 have hx:=Ca e d (t::r) (B++u::rest) ho.1 h3 bK
 have he:t::r++B++u::rest=t::r++(B++u::rest):=by simp
 have hs:sign (t::r++(B++u::rest)) 0≠[125]:=(hh _).2;rw [he,S.fits]
 cases hfa:a.fit d with
 | false =>
  refine ⟨fun hb=>(by simp at hb),fun _=>?_⟩;obtain ⟨pos,f0,h0⟩:=hx.2 hfa;refine ⟨pos,f0+1,fun f hf=>?_⟩;obtain ⟨f,rfl⟩:∃ g,f=g+1:=⟨f - 1,by omega⟩;rw [rs.body,if_neg hs,h0 f (by omega)]
 | true =>
  obtain ⟨ta,k1,f0,h0⟩:=hx.1 hfa;have hl:=Cl e d (acc++[ta]) B rest u ho.2 h4 hu fo;refine ⟨fun hb=>?_,fun hb=>?_⟩
  ·obtain ⟨ys,k3,f1,k4⟩:=hl.1 (by simpa using hb);refine ⟨ta::ys,by rw [aI,k1,k3,S.trees],f0+f1+1,fun f hf=>?_⟩;obtain ⟨f,rfl⟩:∃ g,f=g+1:=⟨f - 1,by omega⟩;rw [rs.body,if_neg hs,h0 f (by omega)];simp only;rw [k4 f (by omega),append_assoc];rfl
  ·obtain ⟨pos,f1,k3⟩:=hl.2 (by simpa using hb);refine ⟨pos,f0+f1+1,fun f hf=>?_⟩;obtain ⟨f,rfl⟩:∃ g,f=g+1:=⟨f - 1,by omega⟩;rw [rs.body,if_neg hs,h0 f (by omega)];exact k3 f (by omega)
theorem qK.blk {l:List S} (C:qK l) {A:List Tok} {u w:Tok} (ho:S.cD l=true) (ht:A.map kf=S.l7 l) (hu:u.kind=3) (fo:u.s=[123]) (hw:w.kind=3) (DC:w.s=[125]) :
  Sx e (.block d) (u::(A++w::rest)) rest (fun t=>er t=.mk ⟨14,0,0,[],[]⟩ (S.trees l)) (decide (d<=60)&&S.fits l (d+1)):=by
 have hb:=C e (d+1) [] A rest w ho ht hw DC
 by_cases hd:d<=60
 ·have:(decide (d<=60)&&S.fits l (d+1))=S.fits l (d+1):=by simp [hd]
  rw [this];refine ⟨fun h=>?_,fun h=>?_⟩
  ·obtain ⟨ys,k1,f0,h0⟩:=hb.1 h;refine ⟨one 14 u.at_ [] ys,by show er _=_;rw [dy,k1],f0+1,fun f hf=>?_⟩;obtain ⟨f,rfl⟩:∃ g,f=g+1:=⟨f - 1,by omega⟩;rw [rs,if_neg (by omega),qv hu fo];simp only;rw [h0 f (by omega)];rfl
  ·obtain ⟨pos,f0,h0⟩:=hb.2 h;refine ⟨pos,f0+1,fun f hf=>?_⟩;obtain ⟨f,rfl⟩:∃ g,f=g+1:=⟨f - 1,by omega⟩;rw [rs,if_neg (by omega),qv hu fo];simp only;rw [h0 f (by omega)]
 ·have:(decide (d<=60)&&S.fits l (d+1))=false:=by simp [hd]
  rw [this];exact ⟨fun hb=>(by cases hb),fun _=>⟨_,rH fun f=>by rw [rs,if_pos (by omega)]⟩⟩
theorem xu {j:qf} {x:Rd T} {il:List Tok} {j':qf} {x':Rd T} (h:Es e j ts x) (hs:∀ f,rs e f j ts=x->rs e (f+1) j' il=x'):Es e j' il x':=by
 obtain ⟨f0,h0⟩:=h;refine ⟨f0+1,fun f hf=>?_⟩;obtain ⟨f,rfl⟩:∃ g,f=g+1:=⟨f - 1,by omega⟩;exact hs f (h0 f (by omega))
theorem Ij {j j2:qf} {x x2:Rd T} {il vL:List Tok} {j':qf} {x':Rd T} (h:Es e j ts x) (h2:Es e j2 vL x2) (hs:∀ f,rs e f j ts=x->rs e f j2 vL=x2->rs e (f+1) j' il=x'):Es e j' il x':=by
 obtain ⟨f0,h0⟩:=h;obtain ⟨f1,h1⟩:=h2;refine ⟨f0+f1+1,fun f hf=>?_⟩;obtain ⟨f,rfl⟩:∃ g,f=g+1:=⟨f - 1,by omega⟩;exact hs f (h0 f (by omega)) (h1 f (by omega))
theorem OH (c:E) {l:List S} (C:qK l):qL (.if1 c l):=by
 intro e d ts rest ho ht eP;simp only [S.ok,Bool.and_eq_true] at ho;rw [S.tk] at ht;obtain ⟨v,r,rfl,h1,h2⟩:=map_cons ht;obtain ⟨u,r,rfl,h3,h4⟩:=map_cons h2;obtain ⟨A,r,rfl,h5,h6⟩:=cV h4;obtain ⟨w,r,rfl,h7,h8⟩:=map_cons h6;obtain ⟨x,r,rfl,h9,kL⟩:=map_cons h8;obtain ⟨B,r,rfl,n5,nF⟩:=cV kL;obtain ⟨y,rfl,eA⟩:=gA nF;obtain ⟨h1,cv⟩:=dL h1;obtain ⟨h3,jI⟩:=dL h3;obtain ⟨h7,jZ⟩:=dL h7;obtain ⟨h9,Ds⟩:=dL h9;obtain ⟨eA,AJ⟩:=dL eA
 have he:v::u::(A++w::x::(B++[y]))++rest=v::u::(A++w::(x::(B++y::rest))):=by simp
 have hi:=vi (e:=e) (d:=d+1) (rest:=x::(B++y::rest)) ho.1 h5 h3 jI h7 jZ (by simp);have hb:=C.blk (e:=e) (d:=d+1) (rest:=rest) ho.2 n5 h9 Ds eA AJ;have hv:=tl (rest:=u::(A++w::(x::(B++y::rest)))) h1 cv;rw [he,S.fit]
 refine o7 fun hd=>?_
 cases hfa:pj c (d+1) with
 | false =>
  refine ⟨fun hb=>(by simp at hb),fun _=>?_⟩;obtain ⟨pos,k1⟩:=hi.2 hfa;refine ⟨pos,rH fun f=>?_⟩;rw [rs,if_neg (by omega)];simp only;rw [if_neg (by rw [hv];decide),if_pos (.inl hv),tail_cons,k1]
 | true =>
  obtain ⟨tc,k1,k2⟩:=hi.1 hfa;rw [Bool.true_and];refine ⟨fun h=>?_,fun h=>?_⟩
  ·obtain ⟨tb,k3,k4⟩:=hb.1 h;refine ⟨one 9 v.at_ [] [tc,tb],by show er _=_;rw [dy,aI,aI,k1,k3,S.tree];rfl,xu k4 fun f k4=>?_⟩;rw [rs,if_neg (by omega)];simp only;rw [if_neg (by rw [hv];decide),if_pos (.inl hv),tail_cons,k2];simp only;rw [k4];simp only;rw [if_pos hv,if_neg eP];rfl
  ·obtain ⟨pos,k3⟩:=hb.2 h;refine ⟨pos,xu k3 fun f k3=>?_⟩;rw [rs,if_neg (by omega)];simp only;rw [if_neg (by rw [hv];decide),if_pos (.inl hv),tail_cons,k2];simp only;rw [k3]
theorem JR (c:E) {l:List S} (C:qK l):qL (.while_ c l):=by
 intro e d ts rest ho ht eP;simp only [S.ok,Bool.and_eq_true] at ho;rw [S.tk] at ht;obtain ⟨v,r,rfl,h1,h2⟩:=map_cons ht;obtain ⟨u,r,rfl,h3,h4⟩:=map_cons h2;obtain ⟨A,r,rfl,h5,h6⟩:=cV h4;obtain ⟨w,r,rfl,h7,h8⟩:=map_cons h6;obtain ⟨x,r,rfl,h9,kL⟩:=map_cons h8;obtain ⟨B,r,rfl,n5,nF⟩:=cV kL;obtain ⟨y,rfl,eA⟩:=gA nF;obtain ⟨h1,cv⟩:=dL h1;obtain ⟨h3,jI⟩:=dL h3;obtain ⟨h7,jZ⟩:=dL h7;obtain ⟨h9,Ds⟩:=dL h9;obtain ⟨eA,AJ⟩:=dL eA
 have he:v::u::(A++w::x::(B++[y]))++rest=v::u::(A++w::(x::(B++y::rest))):=by simp
 have hi:=vi (e:=e) (d:=d+1) (rest:=x::(B++y::rest)) ho.1 h5 h3 jI h7 jZ (by simp);have hb:=C.blk (e:=e) (d:=d+1) (rest:=rest) ho.2 n5 h9 Ds eA AJ;have hv:=tl (rest:=u::(A++w::(x::(B++y::rest)))) h1 cv;rw [he,S.fit]
 refine o7 fun hd=>?_
 cases hfa:pj c (d+1) with
 | false =>
  refine ⟨fun hb=>(by simp at hb),fun _=>?_⟩;obtain ⟨pos,k1⟩:=hi.2 hfa;refine ⟨pos,rH fun f=>?_⟩;rw [rs,if_neg (by omega)];simp only;rw [if_neg (by rw [hv];decide),if_pos (.inr hv),tail_cons,k1]
 | true =>
  obtain ⟨tc,k1,k2⟩:=hi.1 hfa;rw [Bool.true_and];refine ⟨fun h=>?_,fun h=>?_⟩
  ·obtain ⟨tb,k3,k4⟩:=hb.1 h;refine ⟨one 10 v.at_ [] [tc,tb],by show er _=_;rw [dy,aI,aI,k1,k3,S.tree];rfl,xu k4 fun f k4=>?_⟩;rw [rs,if_neg (by omega)];simp only;rw [if_neg (by rw [hv];decide),if_pos (.inr hv),tail_cons,k2];simp only;rw [k4];simp only;rw [if_neg (by rw [hv];decide)];rfl
  ·obtain ⟨pos,k3⟩:=hb.2 h;refine ⟨pos,xu k3 fun f k3=>?_⟩;rw [rs,if_neg (by omega)];simp only;rw [if_neg (by rw [hv];decide),if_pos (.inr hv),tail_cons,k2];simp only;rw [k3]
theorem OI (c:E) {l l2:List S} (C:qK l) (C2:qK l2):qL (.if2 c l l2):=by
 intro e d ts rest ho ht eP;simp only [S.ok,Bool.and_eq_true] at ho;rw [S.tk] at ht;obtain ⟨v,r,rfl,h1,h2⟩:=map_cons ht;obtain ⟨u,r,rfl,h3,h4⟩:=map_cons h2;obtain ⟨A,r,rfl,h5,h6⟩:=cV h4;obtain ⟨w,r,rfl,h7,h8⟩:=map_cons h6;obtain ⟨x,r,rfl,h9,kL⟩:=map_cons h8;obtain ⟨B,r,rfl,n5,nF⟩:=cV kL;obtain ⟨y,r,rfl,eA,Bn⟩:=map_cons nF;obtain ⟨z,r,rfl,Tx,Y2⟩:=map_cons Bn;obtain ⟨x2,r,rfl,TA,Y3⟩:=map_cons Y2;obtain ⟨B2,r,rfl,Y4,Y5⟩:=cV Y3;obtain ⟨y2,rfl,Iw⟩:=gA Y5;obtain ⟨h1,cv⟩:=dL h1;obtain ⟨h3,jI⟩:=dL h3;obtain ⟨h7,jZ⟩:=dL h7;obtain ⟨h9,Ds⟩:=dL h9;obtain ⟨eA,AJ⟩:=dL eA;obtain ⟨Tx,XH⟩:=dL Tx;obtain ⟨TA,XI⟩:=dL TA;obtain ⟨Iw,XJ⟩:=dL Iw
 have he:v::u::(A++w::x::(B++y::z::x2::(B2++[y2])))++rest=v::u::(A++w::(x::(B++y::(z::(x2::(B2++y2::rest)))))):=by simp
 have hi:=vi (e:=e) (d:=d+1) (rest:=x::(B++y::(z::(x2::(B2++y2::rest))))) ho.1 h5 h3 jI h7 jZ (by simp);have hb:=C.blk (e:=e) (d:=d+1) (rest:=z::(x2::(B2++y2::rest))) ho.2.1 n5 h9 Ds eA AJ;have eB:=C2.blk (e:=e) (d:=d+1) (rest:=rest) ho.2.2 Y4 TA XI Iw XJ;have hv:=tl (rest:=u::(A++w::(x::(B++y::(z::(x2::(B2++y2::rest))))))) h1 cv;have hz:=tl (rest:=x2::(B2++y2::rest)) Tx XH;rw [he,S.fit]
 refine o7 fun hd=>?_
 cases hfa:pj c (d+1) with
 | false =>
  refine ⟨fun hb=>(by simp at hb),fun _=>?_⟩;obtain ⟨pos,k1⟩:=hi.2 hfa;refine ⟨pos,rH fun f=>?_⟩;rw [rs,if_neg (by omega)];simp only;rw [if_neg (by rw [hv];decide),if_pos (.inl hv),tail_cons,k1]
 | true =>
  obtain ⟨tc,k1,k2⟩:=hi.1 hfa;rw [Bool.true_and]
  cases hfb:(decide (d+1<=60)&&S.fits l (d+2)) with
  | false =>
   refine ⟨fun hb=>(by simp at hb),fun _=>?_⟩;obtain ⟨pos,k3⟩:=hb.2 hfb;refine ⟨pos,xu k3 fun f k3=>?_⟩;rw [rs,if_neg (by omega)];simp only;rw [if_neg (by rw [hv];decide),if_pos (.inl hv),tail_cons,k2];simp only;rw [k3]
  | true =>
   obtain ⟨tb,k3,k4⟩:=hb.1 hfb;rw [Bool.true_and];refine ⟨fun h=>?_,fun h=>?_⟩
   ·obtain ⟨tb2,k5,k6⟩:=eB.1 h;refine ⟨one 9 v.at_ [] [tc,tb,tb2],by show er _=_;rw [dy,aI,aI,aI,k1,k3,k5,S.tree];rfl,Ij k4 k6 fun f k4 k6=>?_⟩;rw [rs,if_neg (by omega)];simp only;rw [if_neg (by rw [hv];decide),if_pos (.inl hv),tail_cons,k2];simp only;rw [k4];simp only;rw [if_pos hv,if_pos hz,tail_cons,k6];rfl
   ·obtain ⟨pos,k5⟩:=eB.2 h;refine ⟨pos,Ij k4 k5 fun f k4 k5=>?_⟩;rw [rs,if_neg (by omega)];simp only;rw [if_neg (by rw [hv];decide),if_pos (.inl hv),tail_cons,k2];simp only;rw [k4];simp only;rw [if_pos hv,if_pos hz,tail_cons,k5]
end
mutual
theorem coreS:∀ (s:S),qL s
 | .set s a=>OM s a
 | .put s a b=>OK s a b
 | .if1 c b=>OH c (yB b)
 | .if2 c b b2=>OI c (yB b) (yB b2)
 | .while_ c b=>JR c (yB b)
 | .ret a=>OL a
 | .do_ a=>RJ a
 | .var s a=>ON s a
theorem yB:∀ (l:List S),qK l
 | []=>LQ
 | a::l=>JP (coreS a) (yB l)
end
def JK (l:List S):List K:=kS [123]::(S.l7 l++[kS [125]])
def bA (l:List S):T:=.mk ⟨14,0,0,[],[]⟩ (S.trees l)
def ei (l:List S) (d:Nat):Bool:=decide (d<=60)&&S.fits l (d+1)
theorem WB (e:Int):∀ f,(∀ j ts,rs e f j ts=.error aR\/rs e (f+1) j ts=rs e f j ts)/\(∀ d acc ts,rs.body e f d acc ts=.error aR\/rs.body e (f+1) d acc ts=rs.body e f d acc ts):=by
 intro f
 induction f with
 | zero=>exact ⟨fun j ts=>.inl (by simp [rs]),fun d acc ts=>.inl (by simp [rs.body])⟩
 | succ f ih =>
  obtain ⟨i1,i2⟩:=ih;refine ⟨fun j ts=>?_,fun d acc ts=>?_⟩
  ·cases j with
   | block d =>
    rw [rs,rs];split
    ·exact .inr rfl
    ·cases aE e [123] ts with
     | error x=>exact .inr rfl
     | ok r =>
      simp only
      rcases i2 (d+1) [] r with h | h
      ·left;rw [h]
      ·rw [h];exact .inr rfl
   | stmt d =>
    rw [rs,rs];split
    ·exact .inr rfl
    ·simp only;split
     ·exact .inr rfl
     ·split
      ·cases inner e (d+1) [40] [41] ts.tail with
       | error x=>exact .inr rfl
       | ok y =>
        obtain ⟨c,r⟩:=y;simp only
        rcases i1 (.block (d+1)) r with h | h
        ·left;rw [h]
        ·rw [h]
         cases rs e f (.block (d+1)) r with
         | error x=>exact .inr rfl
         | ok y =>
          obtain ⟨b,r⟩:=y;simp only;split
          ·split
           ·rcases i1 (.block (d+1)) r.tail with h | h
            ·left;rw [h]
            ·rw [h];exact .inr rfl
           ·exact .inr rfl
          ·exact .inr rfl
      ·exact .inr rfl
  ·rw [rs.body,rs.body];split
   ·exact .inr rfl
   ·rcases i1 (.stmt d) ts with h | h
    ·left;rw [h]
    ·rw [h]
     cases rs e f (.stmt d) ts with
     | error x=>exact .inr rfl
     | ok y=>exact i2 _ _ _
theorem SB {e:Int} {f f':Nat} {j:qf} {ts:List Tok} (h:rs e f j ts≠.error aR) (hf:f<=f'):rs e f' j ts=rs e f j ts:=by
 obtain ⟨k,rfl⟩:=Nat.exists_eq_add_of_le hf;clear hf
 induction k with
 | zero=>rfl
 | succ k ih =>
  rcases (WB e (f+k)).1 j ts with h1 | h1
  ·rw [ih] at h1;exact absurd h1 h
  ·rw [<-Nat.add_assoc,h1,ih]
theorem EH {l:List S} {e:Int} {d:Nat} {ts rest:List Tok} (ho:S.cD l=true) (ht:ts.map kf=JK l) :
  (ei l d=true->∃ t,er t=bA l/\block e d (ts++rest)=.ok (t,rest))/\(ei l d=false->∃ pos,block e d (ts++rest)=.error (9,pos)):=by
 obtain ⟨u,r,rfl,h1,h2⟩:=map_cons ht;obtain ⟨A,r,rfl,h3,h4⟩:=cV h2;obtain ⟨w,rfl,h5⟩:=gA h4;obtain ⟨h1,cv⟩:=dL h1;obtain ⟨h5,QF⟩:=dL h5;have hb:=(yB l).blk (e:=e) (d:=d) (rest:=rest) ho h3 h1 cv h5 QF
 have he:u::(A++[w])++rest=u::(A++w::rest):=by simp
 rw [he]
 have key:∀ {x:Rd T},Es e (.block d) (u::(A++w::rest)) x->block e d (u::(A++w::rest))=x:=by
  rintro x ⟨f0,h0⟩;have bK:rs e (lU (u::(A++w::rest))) (.block d) (u::(A++w::rest))≠.error aR:=vP;have:=SB bK (Nat.le_add_left _ f0);rw [h0 _ (by omega)] at this;exact this.symm
 exact ⟨fun h=>by obtain ⟨t,k1,k2⟩:=hb.1 h;exact ⟨t,k1,key k2⟩,fun h=>by obtain ⟨pos,k1⟩:=hb.2 h;exact ⟨pos,key k1⟩⟩
end Go.Xp
namespace Go.Xp
open Go.Sp (bf ek cS bN bF own lZ fT bc)
def zb (n:Int):Int:=if n % 4294967296 > 2147483647 then n % 4294967296 - 4294967296 else n % 4294967296
def cm (n:Nat):ah:=if h:n < 10 then [UInt8.ofNat (48+n)] else cm (n / 10)++[UInt8.ofNat (48+n % 10)]
termination_by n
decreasing_by omega
theorem oz (n:Nat):(cm n).length<=n+1:=by
 induction n using Nat.strongRecOn with
 | _ n ih =>
 unfold cm
 by_cases h:n < 10
 ·rw [dif_pos h];simp
 ·rw [dif_neg h,length_append];have:=ih (n / 10) (by omega);simp;omega
def bt:List ah->ah
 | []=>[]
 | x::r=>x++r.flatMap fun y=>44::32::y
theorem BM {l:List ah} (h:l≠[]) (x:ah):bt (l++[x])=(bt l++[44,32])++x:=by
 cases l with
 | nil=>exact absurd rfl h
 | cons a l=>simp [bt,List.flatMap_append]
theorem wh (l:List ah) (k:Nat):(bt (l.take k)).length<=(bt l).length:=by
 cases l with
 | nil=>simp
 | cons a l =>
  cases k with
  | zero=>simp [bt]
  | succ k =>
   simp only [take_succ_cons,bt,length_append]
   have:∀ (l:List ah) (k:Nat),((l.take k).flatMap fun y=>(44:UInt8)::32::y).length<=(l.flatMap fun y=>(44:UInt8)::32::y).length:=by
    intro l
    induction l with
    | nil=>intro k;simp
    | cons b l ih=>intro k;cases k with
     | zero=>simp
     | succ k=>simp only [take_succ_cons,flatMap_cons,length_append];have:=ih k;omega
   have:=this l k;omega
def pX (lv k:Nat) (x:ah):ah:=if lv < k then (40::x)++[41] else x
mutual
def E.txt:E->ah
 | .num n=>cm n.toNat
 | .name s=>s
 | .at_ s a=>((s++[91])++a.txt)++[93]
 | .call s l=>((s++[40])++bt (E.cy l))++[41]
 | .un s a=>(s++[32])++pX a.lv 9 a.txt
 | .bin s a b=>(((pX a.lv (dG s) a.txt++[32])++s)++[32])++pX b.lv (dG s+1) b.txt
def E.cy:List E->List ah
 | []=>[]
 | a::l=>a.txt::E.cy l
end
mutual
def E.full:E->ah
 | .num n=>cm n.toNat
 | .name s=>s
 | .at_ s a=>((s++[91])++a.full)++[93]
 | .call s l=>((s++[40])++bt (E.rP l))++[41]
 | .un s a=>((40::s)++a.full)++[41]
 | .bin s a b=>(((((40::a.full)++[32])++s)++[32])++b.full)++[41]
def E.rP:List E->List ah
 | []=>[]
 | a::l=>a.full::E.rP l
end
theorem E.Qd (l:List E):E.cy l=l.map E.txt:=by
 induction l with
 | nil=>rfl
 | cons a l ih=>rw [E.cy,ih];rfl
theorem E.Mp (l:List E):E.rP l=l.map E.full:=by
 induction l with
 | nil=>rfl
 | cons a l ih=>rw [E.rP,ih];rfl
def E.out (least:Bool) (a:E):ah:=if least then a.txt else a.full
mutual
def S.txt (x:E->ah):S->ah
 | .set s a=>((s++[32,61,32])++x a)++[59]
 | .put s a b=>((((s++[91])++x a)++[93,32,61,32])++x b)++[59]
 | .if1 c b=>(([105,102,32,40]++x c)++[41,32])++(S.cy x [123,32] b++[125])
 | .if2 c b b2=>(((([105,102,32,40]++x c)++[41,32])++(S.cy x [123,32] b++[125]))++[32,101,108,115,101,32])++(S.cy x [123,32] b2++[125])
 | .while_ c b=>(([119,104,105,108,101,32,40]++x c)++[41,32])++(S.cy x [123,32] b++[125])
 | .ret a=>([114,101,116,117,114,110,32]++x a)++[59]
 | .do_ a=>x a++[59]
 | .var s a=>((([118,97,114,32]++s)++[32,61,32])++x a)++[59]
def S.cy (x:E->ah):ah->List S->ah
 | acc,[]=>acc
 | acc,a::l=>S.cy x ((acc++a.txt x)++[32]) l
end
def eM (x:E->ah) (l:List S):ah:=S.cy x [123,32] l++[125]
theorem HV (n:Nd) (l:List T):cS (.mk n l)=(bN l&&bF (.mk n l)):=by rw [cS]
theorem tM {l:List T} (h:bN l=true) {t:T} (ht:t∈l):cS t=true:=by
 induction l with
 | nil=>cases ht
 | cons a l ih =>
  rw [bN,Bool.and_eq_true] at h
  rcases List.mem_cons.1 ht with rfl | ht
  ·exact h.1
  ·exact ih h.2 ht
theorem lI (n:Nd) (l:List T):er (.mk n l)=.mk ⟨n.kind,0,n.n,n.s,[]⟩ (aI l):=by rw [er]
theorem gU {l:List T} {m i:Nat} (h:bc m i l=true):∀ (j:Nat) t,l[j]?=some t->(if i+j < m then lZ t.n.kind else t.n.kind==14)=true:=by
 induction l generalizing i with
 | nil=>intro j t h;simp at h
 | cons a l ih =>
  rw [bc,Bool.and_eq_true] at h;intro j t hj
  cases j with
  | zero=>cases hj;exact h.1
  | succ j=>have:=ih h.2 j t (by simpa using hj);rw [show i+(j+1)=i+1+j by omega];exact this
theorem ET:∀ (l:List T),(∀ t∈l,∃ a:E,a.ok=true/\er t=a.tree)->∃ es:List E,E.cD es=true/\aI l=E.trees es
 | [],_=>⟨[],rfl,rfl⟩
 | t::l,h=>by
  obtain ⟨a,h1,h2⟩:=h t (mem_cons_self);obtain ⟨es,h3,h4⟩:=ET l (fun t ht=>h t (mem_cons_of_mem _ ht));exact ⟨a::es,by simp [E.cD,h1,h3],by rw [aI,E.trees,h2,h4]⟩
theorem toE:∀ (sz:Nat) (t:T),sizeOf t<=sz->cS t=true->lZ t.n.kind=true->∃ a:E,a.ok=true/\er t=a.tree:=by
 intro sz
 induction sz with
 | zero=>intro t h;cases t;simp at h
 | succ sz ih =>
  intro t cI ha hk;obtain ⟨n,l⟩:=t;rw [HV,Bool.and_eq_true] at ha;obtain ⟨ha,ho⟩:=ha
  have pD:∀ t∈l,lZ t.n.kind=true->∃ a:E,a.ok=true/\er t=a.tree:=fun t ht hk=>by
   have:=List.sizeOf_lt_of_mem ht;exact ih t (by simp at cI;omega) (tM ha ht) hk
  obtain ⟨k,at_,v,s,ks⟩:=n
  have hk:(1:Int)<=k/\k<=6:=by
   simp only [lZ,T.n,Bool.and_eq_true] at hk;exact ⟨of_decide_eq_true hk.1,of_decide_eq_true hk.2⟩
  simp only [bF,own,T.n,T.kids] at ho
  obtain rfl | rfl | rfl | rfl | rfl | rfl:k=1\/k=2\/k=3\/k=4\/k=5\/k=6:=by omega
  ·simp at ho;obtain ⟨h1,h2,h3,h4,h5⟩:=ho;subst h4 h5;exact ⟨.num v,by simp only [E.ok,Bool.and_eq_true];exact ⟨h2,h3⟩,by rw [lI,E.tree];rfl⟩
  ·simp at ho;obtain ⟨h1,h2,h3,h4⟩:=ho;subst h2 h4;exact ⟨.name s,by simp [E.ok,h3],by rw [lI,E.tree];rfl⟩
  ·simp at ho;obtain ⟨h1,h2,h3,h4,h5⟩:=ho;subst h2
   match l,h4 with
   | [t],_ =>
    have wZ:=gU h5 0 t rfl;obtain ⟨a,h6,h7⟩:=pD t (by simp) (by simpa using wZ);exact ⟨.at_ s a,by simp [E.ok,h3,h6],by rw [lI,E.tree,aI,h7];rfl⟩
  ·simp at ho;obtain ⟨h1,h2,h3,h5⟩:=ho;subst h2
   obtain ⟨es,h6,h7⟩:=ET l fun t ht=>pD t ht (by
    obtain ⟨j,hj⟩:=List.mem_iff_getElem?.1 ht;have aq:=(List.getElem?_eq_some_iff.1 hj).1;have:=gU h5 j t hj
    rw [if_pos (by omega)] at this;exact this)
   exact ⟨.call s es,by simp [E.ok,h3,h6],by rw [lI,E.tree,h7]⟩
  ·simp at ho;obtain ⟨h1,h2,h3,h4,h5⟩:=ho;subst h2
   match l,h4 with
   | [t],_ =>
    have wZ:=gU h5 0 t rfl;obtain ⟨a,h6,h7⟩:=pD t (by simp) (by simpa using wZ);exact ⟨.un s a,by simp only [E.ok,h6,Bool.and_true,Bool.or_eq_true,beq_iff_eq];exact h3,by rw [lI,E.tree,aI,h7];rfl⟩
  ·simp at ho;obtain ⟨h1,h2,h3,h4,h5⟩:=ho;subst h2
   match l,h4 with
   | [t,u],_ =>
    have wZ:=gU h5 0 t rfl;have Zz:=gU h5 1 u rfl;obtain ⟨a,h6,h7⟩:=pD t (by simp) (by simpa using wZ);obtain ⟨b,h8,h9⟩:=pD u (by simp) (by simpa using Zz);exact ⟨.bin s a b,by simp [E.ok,h3,h6,h8],by rw [lI,E.tree,aI,aI,h7,h9];rfl⟩
end Go.Xp
namespace Go.Xp
open Go.Sp (bf ek cS bN bF own lZ fT bc)
theorem GH:∀ (l:List T),(∀ t∈l,∃ a:S,a.ok=true/\er t=a.tree)->∃ es:List S,S.cD es=true/\aI l=S.trees es
 | [],_=>⟨[],rfl,rfl⟩
 | t::l,h=>by
  obtain ⟨a,h1,h2⟩:=h t (mem_cons_self);obtain ⟨es,h3,h4⟩:=GH l (fun t ht=>h t (mem_cons_of_mem _ ht));exact ⟨a::es,by simp [S.cD,h1,h3],by rw [aI,S.trees,h2,h4]⟩
theorem toS:∀ (sz:Nat) (t:T),sizeOf t<=sz->cS t=true->(fT t.n.kind=true->∃ a:S,a.ok=true/\er t=a.tree)/\(t.n.kind=14->∃ l:List S,S.cD l=true/\er t=bA l):=by
 intro sz
 induction sz with
 | zero=>intro t h;cases t;simp at h
 | succ sz ih =>
  intro t cI ha;obtain ⟨n,l⟩:=t;rw [HV,Bool.and_eq_true] at ha;obtain ⟨ha,ho⟩:=ha
  have hex:∀ t∈l,lZ t.n.kind=true->∃ a:E,a.ok=true/\er t=a.tree:=fun t ht hk=>toE _ t (Nat.le_refl _) (tM ha ht) hk
  have dr:∀ t∈l,t.n.kind=14->∃ l:List S,S.cD l=true/\er t=bA l:=fun t ht hk=>by
   have:=List.sizeOf_lt_of_mem ht;exact (ih t (by simp at cI;omega) (tM ha ht)).2 hk
  have bY:∀ t∈l,fT t.n.kind=true->∃ a:S,a.ok=true/\er t=a.tree:=fun t ht hk=>by
   have:=List.sizeOf_lt_of_mem ht;exact (ih t (by simp at cI;omega) (tM ha ht)).1 hk
  obtain ⟨k,at_,v,s,ks⟩:=n;simp only [bF,own,T.n,T.kids] at ho;refine ⟨fun hk=>?_,fun hk=>?_⟩
  ·have hk:(7:Int)<=k/\k<=13:=by
    simp only [fT,T.n,Bool.and_eq_true] at hk;exact ⟨of_decide_eq_true hk.1,of_decide_eq_true hk.2⟩
   obtain rfl | rfl | rfl | rfl | rfl | rfl | rfl:k=7\/k=8\/k=9\/k=10\/k=11\/k=12\/k=13:=by omega
   ·simp at ho;obtain ⟨h1,h2,h3,h4,h5⟩:=ho;subst h2
    match l,h4 with
    | [t],_ =>
     obtain ⟨a,h6,h7⟩:=hex t (by simp) (by simpa using gU h5 0 t rfl);exact ⟨.set s a,by simp [S.ok,h3,h6],by rw [lI,S.tree,aI,h7];rfl⟩
   ·simp at ho;obtain ⟨h1,h2,h3,h4,h5⟩:=ho;subst h2
    match l,h4 with
    | [t,u],_ =>
     obtain ⟨a,h6,h7⟩:=hex t (by simp) (by simpa using gU h5 0 t rfl);obtain ⟨b,h8,h9⟩:=hex u (by simp) (by simpa using gU h5 1 u rfl);exact ⟨.put s a b,by simp [S.ok,h3,h6,h8],by rw [lI,S.tree,aI,aI,h7,h9];rfl⟩
   ·simp at ho;obtain ⟨h1,h2,h3,h4,h5⟩:=ho;subst h2 h3
    rcases h4 with h4 | h4
    ·match l,h4 with
     | [t,u],_ =>
      obtain ⟨a,h6,h7⟩:=hex t (by simp) (by simpa using gU h5 0 t rfl);obtain ⟨b,h8,h9⟩:=dr u (by simp) (by simpa using gU h5 1 u rfl);exact ⟨.if1 a b,by simp [S.ok,h6,h8],by rw [lI,S.tree,aI,aI,h7,h9];rfl⟩
    ·match l,h4 with
     | [t,u,w],_ =>
      obtain ⟨a,h6,h7⟩:=hex t (by simp) (by simpa using gU h5 0 t rfl);obtain ⟨b,h8,h9⟩:=dr u (by simp) (by simpa using gU h5 1 u rfl);obtain ⟨c,kL,n5⟩:=dr w (by simp) (by simpa using gU h5 2 w rfl);exact ⟨.if2 a b c,by simp [S.ok,h6,h8,kL],by rw [lI,S.tree,aI,aI,aI,h7,h9,n5];rfl⟩
   ·simp at ho;obtain ⟨h1,h2,h3,h4,h5⟩:=ho;subst h2 h3
    match l,h4 with
    | [t,u],_ =>
     obtain ⟨a,h6,h7⟩:=hex t (by simp) (by simpa using gU h5 0 t rfl);obtain ⟨b,h8,h9⟩:=dr u (by simp) (by simpa using gU h5 1 u rfl);exact ⟨.while_ a b,by simp [S.ok,h6,h8],by rw [lI,S.tree,aI,aI,h7,h9];rfl⟩
   ·simp at ho;obtain ⟨h1,h2,h3,h4,h5⟩:=ho;subst h2 h3
    match l,h4 with
    | [t],_ =>
     obtain ⟨a,h6,h7⟩:=hex t (by simp) (by simpa using gU h5 0 t rfl);exact ⟨.ret a,by simp [S.ok,h6],by rw [lI,S.tree,aI,h7];rfl⟩
   ·simp at ho;obtain ⟨h1,h2,h3,h4,h5⟩:=ho;subst h2 h3
    match l,h4 with
    | [t],_ =>
     obtain ⟨a,h6,h7⟩:=hex t (by simp) (by simpa using gU h5 0 t rfl);exact ⟨.do_ a,by simp [S.ok,h6],by rw [lI,S.tree,aI,h7];rfl⟩
   ·simp at ho;obtain ⟨h1,h2,h3,h4,h5⟩:=ho;subst h2
    match l,h4 with
    | [t],_ =>
     obtain ⟨a,h6,h7⟩:=hex t (by simp) (by simpa using gU h5 0 t rfl);exact ⟨.var s a,by simp [S.ok,h3,h6],by rw [lI,S.tree,aI,h7];rfl⟩
  ·simp only [T.n] at hk;subst hk;simp at ho;obtain ⟨h1,h2,h3,h4⟩:=ho;subst h2 h4
   obtain ⟨es,h5,h6⟩:=GH l fun t ht=>bY t ht (h3 t ht)
   exact ⟨es,h5,by rw [lI,bA,h6]⟩
theorem toB {t:T} (h:cS t=true) (hk:t.n.kind=14):∃ l:List S,S.cD l=true/\er t=bA l:=(toS _ t (Nat.le_refl _) h).2 hk
mutual
def wt:T->Nat
 | .mk n l=>30+n.s.length+ew l
def ew:List T->Nat
 | []=>0
 | t::l=>wt t+ew l
end
mutual
theorem Rr:∀ t:T,wt (er t)=wt t
 | .mk n l=>by rw [er,wt,wt,Jx l]
theorem Jx:∀ l:List T,ew (aI l)=ew l
 | []=>rfl
 | t::l=>by rw [aI,ew,ew,Rr t,Jx l]
end
theorem H7:∀ (k n:Nat),n < 10 ^ (k+1)->(cm n).length<=k+1:=by
 intro k
 induction k with
 | zero=>intro n h;unfold cm;rw [dif_pos (by omega)];simp
 | succ k ih =>
  intro n h;unfold cm;split
  ·simp
  ·rw [length_append];have:=ih (n / 10) (by rw [Nat.pow_succ] at h;omega);simp;omega
theorem rZ (lv k:Nat) (x:ah):(pX lv k x).length<=x.length+2:=by unfold pX;split <;> simp
mutual
theorem E.len:∀ a:E,a.ok=true->a.txt.length+4<=wt a.tree/\a.full.length+4<=wt a.tree
 | .num n,h=>by
  simp only [E.ok,Bool.and_eq_true] at h;have h1:=of_decide_eq_true h.1;have h2:=of_decide_eq_true h.2;have:=H7 9 n.toNat (by omega);rw [E.txt,E.full,E.tree,wt];simp only [length_nil,ew];omega
 | .name s,h=>by rw [E.txt,E.full,E.tree,wt];simp only [ew];omega
 | .at_ s a,h=>by
  simp only [E.ok,Bool.and_eq_true] at h;have:=E.len a h.2;rw [E.txt,E.full,E.tree,wt];simp only [ew,length_append,length_cons,length_nil];omega
 | .call s l,h=>by
  simp only [E.ok,Bool.and_eq_true] at h;have:=E.lens l h.2;rw [E.txt,E.full,E.tree,wt];simp only [length_append,length_cons,length_nil];omega
 | .un s a,h=>by
  simp only [E.ok,Bool.and_eq_true] at h;have:=E.len a h.2;have:=rZ a.lv 9 a.txt;rw [E.txt,E.full,E.tree,wt];simp only [ew,length_append,length_cons,length_nil];omega
 | .bin s a b,h=>by
  simp only [E.ok,Bool.and_eq_true] at h;have:=E.len a h.1.2;have:=E.len b h.2;have:=rZ a.lv (dG s) a.txt;have:=rZ b.lv (dG s+1) b.txt;rw [E.txt,E.full,E.tree,wt];simp only [ew,length_append,length_cons,length_nil];omega
theorem E.lens:∀ l:List E,E.cD l=true->(bt (E.cy l)).length<=ew (E.trees l)/\(bt (E.rP l)).length<=ew (E.trees l)
 | [],_=>⟨Nat.zero_le _,Nat.zero_le _⟩
 | a::l,h=>by
  simp only [E.cD,Bool.and_eq_true] at h;have h1:=E.len a h.1;have h2:=E.lens l h.2;rw [E.cy,E.rP,E.trees,ew]
  have key:∀ (x:ah) (l:List ah),(bt (x::l)).length<=x.length+2+(bt l).length:=by
   intro x l
   cases l with
   | nil=>simp [bt]
   | cons y l=>simp [bt];omega
  have:=key a.txt (E.cy l);have:=key a.full (E.rP l);omega
end
mutual
theorem S.len (x:E->ah) (hx:∀ a:E,a.ok=true->(x a).length+4<=wt a.tree):∀ s:S,s.ok=true->(s.txt x).length+4<=wt s.tree
 | .set s a,h=>by
  simp only [S.ok,Bool.and_eq_true] at h;have:=hx a h.2;rw [S.txt,S.tree,wt];simp only [ew,length_append,length_cons,length_nil];omega
 | .put s a b,h=>by
  simp only [S.ok,Bool.and_eq_true] at h;have:=hx a h.2.1;have:=hx b h.2.2;rw [S.txt,S.tree,wt];simp only [ew,length_append,length_cons,length_nil];omega
 | .if1 c b,h=>by
  simp only [S.ok,Bool.and_eq_true] at h;have:=hx c h.1;have:=S.lens x hx b h.2 [123,32];rw [S.txt,S.tree,wt];simp only [ew,wt,length_append,length_cons,length_nil] at *;omega
 | .if2 c b b2,h=>by
  simp only [S.ok,Bool.and_eq_true] at h;have:=hx c h.1;have:=S.lens x hx b h.2.1 [123,32];have:=S.lens x hx b2 h.2.2 [123,32];rw [S.txt,S.tree,wt];simp only [ew,wt,length_append,length_cons,length_nil] at *;omega
 | .while_ c b,h=>by
  simp only [S.ok,Bool.and_eq_true] at h;have:=hx c h.1;have:=S.lens x hx b h.2 [123,32];rw [S.txt,S.tree,wt];simp only [ew,wt,length_append,length_cons,length_nil] at *;omega
 | .ret a,h=>by
  simp only [S.ok] at h;have:=hx a h;rw [S.txt,S.tree,wt];simp only [ew,length_append,length_cons,length_nil];omega
 | .do_ a,h=>by
  simp only [S.ok] at h;have:=hx a h;rw [S.txt,S.tree,wt];simp only [ew,length_append,length_cons,length_nil];omega
 | .var s a,h=>by
  simp only [S.ok,Bool.and_eq_true] at h;have:=hx a h.2;rw [S.txt,S.tree,wt];simp only [ew,length_append,length_cons,length_nil];omega
theorem S.lens (x:E->ah) (hx:∀ a:E,a.ok=true->(x a).length+4<=wt a.tree):∀ l:List S,S.cD l=true->∀ acc:ah,(S.cy x acc l).length<=acc.length+ew (S.trees l)
 | [],_,acc=>by rw [S.cy];omega
 | a::l,h,acc=>by
  simp only [S.cD,Bool.and_eq_true] at h;have h1:=S.len x hx a h.1;have h2:=S.lens x hx l h.2 ((acc++a.txt x)++[32]);rw [S.cy,S.trees,ew];simp only [length_append,length_cons,length_nil] at h2;omega
end
theorem rY (x:E->ah) (hx:∀ a:E,a.ok=true->(x a).length+4<=wt a.tree) {l:List S} (h:S.cD l=true):(eM x l).length<=wt (bA l):=by
 have:=S.lens x hx l h [123,32];unfold eM bA;rw [wt];simp only [length_append,length_cons,length_nil] at *;omega
end Go.Xp
namespace Go.Im
open Go.Xp Go.Sp
def pU (g:Nat->Option (T × Nat)):List Int->Nat->List T->Option (List T × Nat)
 | [],next,acc=>some (acc,next)
 | k::r,next,acc=>if k=(next:Int) then match g next with
  | none=>none
  | some (t,e)=>pU g r e (acc++[t])
  else none
def nL (nodes:List Nd):Nat->Nat->Option (T × Nat)
 | 0,_=>none
 | f+1,a=>match nodes[a]? with
  | none=>none
  | some n=>match pU (nL nodes f) n.kids (a+1) [] with
   | none=>none
   | some (l,e)=>if n.at_ < 0 then none else some (.mk n l,e)
def tr (nodes:List Nd) (a:Nat):Option (T × Nat):=nL nodes (nodes.length+1) a
theorem GX {nodes:List Nd} {g:Nat->Option (T × Nat)} (hg:∀ a t e,g a=some (t,e)->a < e/\e<=nodes.length/\e=a+aK t/\(nodes.take e).drop a=ly a t) :
  ∀ (ks:List Int) (next:Nat) (acc l:List T) (e:Nat),next<=nodes.length->pU g ks next acc=some (l,e)->∃ l',l=acc++l'/\e=next+ay l'/\e<=nodes.length/\ks=bO next l'/\(nodes.take e).drop next=dW next l'
 | [],next,acc,l,e,hn,h=>by
  rw [pU] at h;cases h;exact ⟨[],by simp,by simp [ay],hn,rfl,by rw [dW];exact eq_nil_of_length_eq_zero (by rw [length_drop,length_take];omega)⟩
 | k::r,next,acc,l,e,hn,h=>by
  rw [pU] at h;split at h
  ·rename_i hk
   cases hq:g next with
   | none=>rw [hq] at h;cases h
   | some x =>
    obtain ⟨t,e1⟩:=x;rw [hq] at h;simp only at h;obtain ⟨a1,a2,a3,a4⟩:=hg _ _ _ hq;obtain ⟨l',b1,b2,b3,b4,b5⟩:=GX hg r e1 (acc++[t]) l e a2 h;refine ⟨t::l',by rw [b1];simp,by rw [ay];omega,b3,by rw [bO,<-a3,<-b4,hk],?_⟩;rw [dW,<-a3,<-a4,<-b5]
    have he:e1<=e:=by omega
    have h1:(nodes.take e).take e1=nodes.take e1:=by rw [List.take_take,Nat.min_eq_left he]
    have h2:(nodes.take e).drop next=((nodes.take e).take e1).drop next++(nodes.take e).drop e1:=by
     have h3:nodes.take e=(nodes.take e).take e1++(nodes.take e).drop e1:=(take_append_drop _ _).symm
     have h4:((nodes.take e).take e1).length=e1:=by rw [length_take,length_take];omega
     rw [h3,List.drop_append_of_le_length (by rw [h4];omega)];rw [<-h3]
    rw [h2,h1]
  ·cases h
theorem A5 {nodes:List Nd}:∀ (f a:Nat) (t:T) (e:Nat),nL nodes f a=some (t,e)->a < e/\e<=nodes.length/\e=a+aK t/\(nodes.take e).drop a=ly a t
 | 0,a,t,e,h=>by cases h
 | f+1,a,t,e,h=>by
  rw [nL] at h
  cases hn:nodes[a]? with
  | none=>rw [hn] at h;cases h
  | some n =>
   rw [hn] at h;simp only at h;have aq:=(List.getElem?_eq_some_iff.1 hn).1
   cases hk:pU (nL nodes f) n.kids (a+1) [] with
   | none=>rw [hk] at h;cases h
   | some x =>
    obtain ⟨l,e1⟩:=x;rw [hk] at h;simp only at h;split at h
    ·cases h
    ·cases h;obtain ⟨l',b1,b2,b3,b4,b5⟩:=GX (A5 f) n.kids (a+1) [] l e aq hk
     have:l'=l:=by rw [b1];rfl
     subst this;refine ⟨by omega,b3,by rw [aK];omega,?_⟩;rw [ly,<-b4,<-b5]
     have h1:(nodes.take e)[a]?=some n:=by rw [getElem?_take,if_pos (by omega)];exact hn
     obtain ⟨h2,h3⟩:=List.getElem?_eq_some_iff.1 h1;rw [List.drop_eq_getElem_cons h2,h3]
def gW (nodes:List Nd):List Fn->Nat->List T->Option (List T × Nat)
 | [],next,acc=>some (acc,next)
 | f::r,next,acc=>match tr nodes next with
  | none=>none
  | some (t,e)=>if f.body=(next:Int) then gW nodes r e (acc++[t]) else none
def cL (k:Int) (n:Nat):Bool :=
 if k=1\/k=2 then ((n:Int)==0)
 else if k=4\/k=14 then true
 else if k=3\/k=5\/k=7\/k=11\/k=12\/k=13 then ((n:Int)==1)
 else if k=6\/k=8\/k=10 then ((n:Int)==2)
 else if k=9 then ((n:Int)==2) || ((n:Int)==3)
 else false
mutual
def fH:T->Bool
 | .mk n l=>cL n.kind l.length&&uC l
def uC:List T->Bool
 | []=>true
 | t::r=>fH t&&uC r
end
theorem xY (t:T):fH t=(cL t.n.kind t.kids.length&&uC t.kids):=by cases t;rw [fH];rfl
theorem sT (l:List T):uC l=l.all fH:=by
 induction l with
 | nil=>rfl
 | cons t l ih=>rw [uC,ih];rfl
end Go.Im
namespace Go.Im
open Go.Xp Go.Sp
mutual
def eh (nodes:List Nd):Nat->T->Prop
 | a,.mk n l=>nodes[a]?=some n/\n.kids=bO (a+1) l/\dm nodes (a+1) l
def dm (nodes:List Nd):Nat->List T->Prop
 | _,[]=>True
 | a,t::r=>eh nodes a t/\dm nodes (a+aK t) r
end
mutual
def xi:T->Prop
 | .mk n l=>0<=n.at_/\lG l
def lG:List T->Prop
 | []=>True
 | t::r=>xi t/\lG r
end
theorem jU (t:T):1<=aK t:=by rw [dZ];omega
mutual
theorem eh.le {nodes:List Nd}:∀ (t:T) (a:Nat),eh nodes a t->a+aK t<=nodes.length
 | .mk n l,a,h=>by
  rw [eh] at h;have h1:=(List.getElem?_eq_some_iff.1 h.1).1;have:=dm.le l (a+1) h.2.2 h1;rw [aK];omega
theorem dm.le {nodes:List Nd}:∀ (l:List T) (a:Nat),dm nodes a l->a<=nodes.length->a+ay l<=nodes.length
 | [],a,h,ha=>by rw [ay];exact ha
 | t::r,a,h,ha=>by
  rw [dm] at h;have h1:=eh.le t a h.1;have:=dm.le r _ h.2 h1;rw [ay];omega
end
theorem Ib {nodes:List Nd}:∀ (f:Nat),(∀ (a d:Nat) (e:Int),nO nodes f a d=some e->0<=e->∃ t,eh nodes a t/\e=((a+aK t:Nat):Int)) /\
  (∀ (ks:List Int) (next d:Nat) (e:Int),mI nodes f ks (next:Int) d=some e->0<=e->∃ l,dm nodes next l/\ks=bO next l/\e=((next+ay l:Nat):Int)):=by
 intro f
 induction f with
 | zero =>
  refine ⟨fun a d e h _=>by simp [nO] at h,fun ks next d e h _=>?_⟩
  cases ks with
  | nil=>rw [mI] at h;cases h;exact ⟨[],trivial,rfl,by simp [ay]⟩
  | cons k r=>simp [mI] at h
 | succ f ih =>
  refine ⟨fun a d e h he=>?_,fun ks next d e h he=>?_⟩
  ·rw [nO] at h;split at h
   ·cases h;omega
   ·cases hn:nodes[a]? with
    | none=>rw [hn] at h;cases h
    | some n =>
     rw [hn] at h;simp only at h;rw [show ((a:Int)+1)=((a+1:Nat):Int) by omega] at h;obtain ⟨l,h1,h2,h3⟩:=ih.2 _ _ _ _ h he;exact ⟨.mk n l,by rw [eh];exact ⟨hn,h2,h1⟩,by rw [h3,aK];omega⟩
  ·cases ks with
   | nil=>rw [mI] at h;cases h;exact ⟨[],trivial,rfl,by simp [ay]⟩
   | cons k r =>
    rw [mI] at h;split at h
    ·rename_i hk;subst hk;rw [Int.toNat_natCast] at h
     cases hq:nO nodes f next (d+1) with
     | none=>rw [hq] at h;cases h
     | some e1 =>
      rw [hq] at h;simp only at h;split at h
      ·cases h;omega
      ·rename_i h0;obtain ⟨t,h1,h2⟩:=ih.1 _ _ _ hq (by omega);subst h2;obtain ⟨l,h3,h4,h5⟩:=ih.2 _ _ _ _ h he;refine ⟨t::l,by rw [dm];exact ⟨h1,h3⟩,by rw [bO,<-h4],by rw [h5,ay];omega⟩
    ·cases h;omega
theorem vH {nodes:List Nd}:∀ (f:Nat),(∀ (t:T) (a:Nat),eh nodes a t->2 * aK t<=f->sub nodes f a=some t) /\
  (∀ (l:List T) (a:Nat) (acc:List T),dm nodes a l->2 * ay l+1<=f->nS nodes f (bO a l) acc=some (acc++l)):=by
 intro f
 induction f with
 | zero =>
  exact ⟨fun t a _ h=>by have:=jU t;omega,fun l a acc _ h=>by omega⟩
 | succ f ih =>
  refine ⟨fun t a hs h=>?_,fun l a acc hs h=>?_⟩
  ·obtain ⟨n,l⟩:=t;rw [eh] at hs;rw [aK] at h;rw [sub,hs.1];simp only;rw [hs.2.1,ih.2 l (a+1) [] hs.2.2 (by omega)];rfl
  ·cases l with
   | nil=>rw [bO,nS];simp
   | cons t l =>
    rw [dm] at hs;rw [ay] at h;have:=jU t;rw [bO,nS,if_neg (by omega),Int.toNat_natCast,ih.1 t a hs.1 (by omega)];simp only;rw [ih.2 l _ _ hs.2 (by omega)];simp
theorem Vj {nodes:List Nd}:∀ (f:Nat) (t:T) (a:Nat),eh nodes a t->xi t->aK t<=f->nL nodes f a=some (t,a+aK t):=by
 intro f
 induction f with
 | zero=>intro t a _ _ h;have:=jU t;omega
 | succ f ih =>
  intro t a hs ha h;obtain ⟨n,l⟩:=t
  have key:∀ (l:List T) (a:Nat) (acc:List T),dm nodes a l->lG l->ay l<=f->pU (nL nodes f) (bO a l) a acc=some (acc++l,a+ay l):=by
   intro l
   induction l with
   | nil=>intro a acc _ _ _;rw [bO,pU,ay];simp
   | cons t l ih2 =>
    intro a acc hs ha h;rw [dm] at hs;rw [lG] at ha;rw [ay] at h;rw [bO,pU,if_pos rfl,ih t a hs.1 ha.1 (by omega)];simp only;rw [ih2 _ _ hs.2 ha.2 (by omega),ay];simp [Nat.add_assoc]
  rw [eh] at hs;rw [xi] at ha;rw [aK] at h;rw [nL,hs.1];simp only;rw [hs.2.1,key l (a+1) [] hs.2.2 ha.2 (by omega)];simp only;rw [if_neg (by omega),aK];simp only [nil_append,Option.some.injEq,Prod.mk.injEq,true_and];omega
theorem Va {nodes:List Nd}:∀ (f:Nat) (t:T) (a e:Nat),nL nodes f a=some (t,e)->eh nodes a t/\e=a+aK t/\xi t:=by
 intro f
 induction f with
 | zero=>intro t a e h;cases h
 | succ f ih =>
  intro t a e h
  have key:∀ (ks:List Int) (next:Nat) (acc l:List T) (e:Nat),pU (nL nodes f) ks next acc=some (l,e)->∃ l',l=acc++l'/\dm nodes next l'/\ks=bO next l'/\e=next+ay l'/\lG l':=by
   intro ks
   induction ks with
   | nil=>intro next acc l e h;rw [pU] at h;cases h;exact ⟨[],by simp,trivial,rfl,by simp [ay],trivial⟩
   | cons k r ih2 =>
    intro next acc l e h
    rw [pU] at h;split at h
    ·rename_i hk
     cases hq:nL nodes f next with
     | none=>rw [hq] at h;cases h
     | some x =>
      obtain ⟨t,e1⟩:=x;rw [hq] at h;simp only at h;obtain ⟨a1,a2,a3⟩:=ih _ _ _ hq;subst a2;obtain ⟨l',b1,b2,b3,b4,b5⟩:=ih2 _ _ _ _ h;exact ⟨t::l',by rw [b1];simp,by rw [dm];exact ⟨a1,b2⟩,by rw [bO,hk,b3],by rw [b4,ay];omega,by rw [lG];exact ⟨a3,b5⟩⟩
    ·cases h
  rw [nL] at h
  cases hn:nodes[a]? with
  | none=>rw [hn] at h;cases h
  | some n =>
   rw [hn] at h;simp only at h
   cases hk:pU (nL nodes f) n.kids (a+1) [] with
   | none=>rw [hk] at h;cases h
   | some x =>
    obtain ⟨l,e1⟩:=x;rw [hk] at h;simp only at h;split at h
    ·cases h
    ·rename_i h0;cases h;obtain ⟨l',b1,b2,b3,b4,b5⟩:=key _ _ _ _ _ hk
     have:l'=l:=by rw [b1];rfl
     subst this;exact ⟨by rw [eh];exact ⟨hn,b3,b2⟩,by rw [b4,aK];omega,by rw [xi];exact ⟨by omega,b5⟩⟩
theorem RQ {nodes:List Nd} (hl:nodes.length<=800):∀ (f:Nat),(∀ (t:T) (a d:Nat),eh nodes a t->d<=a->2 * aK t<=f->nO nodes f a d=some ((a+aK t:Nat):Int)) /\
  (∀ (l:List T) (a d:Nat),dm nodes a l->d < a->2 * ay l+1<=f->mI nodes f (bO a l) (a:Int) d=some ((a+ay l:Nat):Int)):=by
 intro f
 induction f with
 | zero =>
  exact ⟨fun t a d _ _ h=>by have:=jU t;omega,fun l a d _ _ h=>by omega⟩
 | succ f ih =>
  refine ⟨fun t a d hs hd h=>?_,fun l a d hs hd h=>?_⟩
  ·obtain ⟨n,l⟩:=t;rw [eh] at hs;rw [aK] at h |-;have aq:=(List.getElem?_eq_some_iff.1 hs.1).1;rw [nO,if_neg (by omega),hs.1];simp only;rw [show ((a:Int)+1)=((a+1:Nat):Int) by omega,hs.2.1,ih.2 l (a+1) d hs.2.2 (by omega) (by omega)]
   congr 1;omega
  ·cases l with
   | nil=>rw [bO,mI,ay];simp
   | cons t l =>
    rw [dm] at hs;rw [ay] at h |-;have:=jU t;rw [bO,mI,if_pos rfl,Int.toNat_natCast,ih.1 t a (d+1) hs.1 (by omega) (by omega)];simp only;rw [if_neg (by omega),ih.2 l _ d hs.2 (by omega) (by omega)]
    congr 1;omega
theorem LY {nodes:List Nd}:∀ (f:Nat),(∀ (a d:Nat),2 * (nodes.length - a)+1<=f->∃ e,nO nodes f a d=some e/\(0<=e->(a:Int) < e/\a < nodes.length)) /\
  (∀ (ks:List Int) (next d:Nat),2 * (nodes.length - next)+2<=f->∃ e,mI nodes f ks (next:Int) d=some e/\(0<=e->(next:Int)<=e)):=by
 intro f
 induction f with
 | zero=>exact ⟨fun a d h=>by omega,fun ks next d h=>by omega⟩
 | succ f ih =>
  refine ⟨fun a d h=>?_,fun ks next d h=>?_⟩
  ·rw [nO];split
   ·exact ⟨-1,rfl,fun h=>by omega⟩
   ·rename_i hc
    cases hn:nodes[a]? with
    | none=>rw [List.getElem?_eq_none_iff] at hn;omega
    | some n =>
     simp only;rw [show ((a:Int)+1)=((a+1:Nat):Int) by omega];obtain ⟨e,h1,h2⟩:=ih.2 n.kids (a+1) d (by omega);exact ⟨e,h1,fun h=>⟨by have:=h2 h;omega,by omega⟩⟩
  ·cases ks with
   | nil=>rw [mI];exact ⟨_,rfl,fun _=>Int.le_refl _⟩
   | cons k r =>
    rw [mI];split
    ·rename_i hk;subst hk;rw [Int.toNat_natCast]
     obtain ⟨e,h1,h2⟩:=ih.1 next (d+1) (by omega)
     rw [h1];simp only;split
     ·exact ⟨-1,rfl,fun h=>by omega⟩
     ·rename_i h0;have h3:=h2 (by omega);obtain ⟨m,rfl⟩:∃ m:Nat,e=(m:Int):=⟨e.toNat,by omega⟩;obtain ⟨e',h4,h5⟩:=ih.2 r m d (by omega);exact ⟨e',h4,fun h=>by have:=h5 h;omega⟩
    ·exact ⟨-1,rfl,fun h=>by omega⟩
def fm (Q:Fn->T->Prop):List Fn->Nat->List T->Prop
 | [],_,[]=>True
 | f::r,a,t::l=>f.body=(a:Int)/\Q f t/\fm Q r (a+aK t) l
 | _,_,_=>False
theorem fm.len {Q:Fn->T->Prop}:∀ {fns:List Fn} {a:Nat} {l:List T},fm Q fns a l->fns.length=l.length
 | [],_,[],_=>rfl
 | f::r,a,t::l,h=>by rw [fm] at h;rw [length_cons,length_cons,fm.len h.2.2]
 | [],_,t::l,h=>by cases h
 | f::r,_,[],h=>by cases h
theorem fm.mono {Q R:Fn->T->Prop}:∀ {fns:List Fn} {a:Nat} {l:List T},fm Q fns a l->(∀ f t,f∈fns->t∈l->Q f t->R f t)->fm R fns a l
 | [],_,[],_,_=>trivial
 | f::r,a,t::l,h,hq=>by
  rw [fm] at h |-;exact ⟨h.1,hq _ _ mem_cons_self mem_cons_self h.2.1,fm.mono h.2.2 fun f t hf ht=>hq f t (mem_cons_of_mem _ hf) (mem_cons_of_mem _ ht)⟩
 | [],_,t::l,h,_=>by cases h
 | f::r,_,[],h,_=>by cases h
theorem fm.at_ {Q:Fn->T->Prop}:∀ {fns:List Fn} {a:Nat} {l:List T},fm Q fns a l->∀ (i:Nat) f t,fns[i]?=some f->l[i]?=some t->f.body=((a+ay (l.take i):Nat):Int)/\Q f t
 | [],_,[],_,i,f,t,h1,h2=>by simp at h1
 | f::r,a,t::l,h,i,f',t',h1,h2=>by
  rw [fm] at h
  cases i with
  | zero=>cases h1;cases h2;rw [take_zero,ay];exact ⟨h.1,h.2.1⟩
  | succ i =>
   obtain ⟨k1,k2⟩:=fm.at_ h.2.2 i f' t' (by simpa using h1) (by simpa using h2);exact ⟨by rw [k1,take_succ_cons,ay];omega,k2⟩
 | [],_,t::l,h,_,_,_,_,_=>by cases h
 | f::r,_,[],h,_,_,_,_,_=>by cases h
structure Ou (f:Fn) (t:T):Prop where
 name:bf f.name=true
 params:b9 f.params=true
 kind:t.n.kind=14
 all:cS t=true
theorem zr {nodes:List Nd}:∀ (fns:List Fn) (next:Nat) (e:Int),fJ nodes fns (next:Int)=some (some e)->∃ l,dm nodes next l/\fm Ou fns next l/\e=((next+ay l:Nat):Int)
 | [],next,e,h=>by rw [fJ] at h;cases h;exact ⟨[],trivial,trivial,by simp [ay]⟩
 | f::r,next,e,h=>by
  rw [fJ,Int.toNat_natCast] at h
  cases hn:nO nodes (fN nodes) next 0 with
  | none=>rw [hn] at h;cases h
  | some e1 =>
   rw [hn] at h;simp only at h;split at h
   ·cases h
   ·rename_i hc;split at h
    ·cases h
    ·rename_i hp;obtain ⟨t,h1,h2⟩:=(Ib _).1 _ _ _ hn (by omega);have hle:=eh.le t _ h1;rw [(vH _).1 t next h1 (by unfold fN;omega)] at h;simp only at h;split at h
     ·cases h
     ·rename_i hk;subst h2;obtain ⟨l,k1,k2,k3⟩:=zr r _ e h;refine ⟨t::l,by rw [dm];exact ⟨h1,k1⟩,?_,by rw [k3,ay];omega⟩;rw [fm];refine ⟨by omega,⟨?_,?_,?_,?_⟩,k2⟩
      ·cases hq:bf f.name with
       | true=>rfl
       | false=>exact absurd (.inr (.inl hq)) hc
      ·simpa using hp
      ·exact Decidable.byContradiction fun hq=>hk (.inl hq)
      ·cases hq:cS t with
       | true=>rfl
       | false=>exact absurd (.inr hq) hk
theorem zq {nodes:List Nd} (hl:nodes.length<=800):∀ (fns:List Fn) (next:Nat) (l:List T),dm nodes next l->fm Ou fns next l->fJ nodes fns (next:Int)=some (some ((next+ay l:Nat):Int))
 | [],next,[],_,_=>by rw [fJ,ay];rfl
 | f::r,next,t::l,h,hf=>by
  rw [dm] at h;rw [fm] at hf;have hle:=eh.le t _ h.1;rw [fJ,Int.toNat_natCast,(RQ hl _).1 t next 0 h.1 (Nat.zero_le _) (by unfold fN;omega)];simp only;rw [if_neg (by rw [hf.2.1.name];rintro (h | h | h);exact h hf.1;cases h;omega),if_neg (by rw [hf.2.1.params];decide),(vH _).1 t next h.1 (by unfold fN;omega)];simp only;rw [if_neg (by rw [hf.2.1.all];rintro (h | h);exact h hf.2.1.kind;cases h),zq hl r _ l h.2 hf.2.2,ay]
  congr 2;omega
 | [],_,t::l,_,h=>by cases h
 | f::r,_,[],_,h=>by cases h
theorem wT {nodes:List Nd}:∀ (fns:List Fn) (next:Nat),∃ r,fJ nodes fns (next:Int)=some r
 | [],next=>⟨_,by rw [fJ]⟩
 | f::r,next=>by
  obtain ⟨e,h1,h2⟩:=(LY (nodes:=nodes) (fN nodes)).1 next 0 (by unfold fN;omega)
  rw [fJ,Int.toNat_natCast,h1];simp only;split
  ·exact ⟨_,rfl⟩
  ·rename_i hc;split
   ·exact ⟨_,rfl⟩
   ·obtain ⟨t,k1,k2⟩:=(Ib _).1 _ _ _ h1 (by omega);have hle:=eh.le t _ k1;rw [(vH _).1 t next k1 (by unfold fN;omega)];simp only;split
    ·exact ⟨_,rfl⟩
    ·rw [k2];exact wT r _
theorem KY (p:Src):∃ b,nC p=some b:=by
 unfold nC;split
 ·exact ⟨_,rfl⟩
 ·split
  ·exact ⟨_,rfl⟩
  ·obtain ⟨r,h⟩:=wT (nodes:=p.nodes) p.fns 0;rw [show ((0:Nat):Int)=0 from rfl] at h;rw [h]
   cases r <;> exact ⟨_,rfl⟩
structure fD (p:Src) (l:List T):Prop where
 globals:b9 p.globals=true
 arrays:p.arrays.all nN=true
 st:dm p.nodes 0 l
 fns:fm Ou p.fns 0 l
 len:ay l=p.nodes.length
 few:p.nodes.length<=800
theorem SL {p:Src} (h:nC p=some true):∃ l,fD p l:=by
 unfold nC at h;split at h
 ·cases h
 ·rename_i h1;split at h
  ·cases h
  ·rename_i h2;rw [show (0:Int)=((0:Nat):Int) from rfl] at h
   cases hf:fJ p.nodes p.fns ((0:Nat):Int) with
   | none=>rw [hf] at h;cases h
   | some r =>
    rw [hf] at h
    cases r with
    | none=>cases h
    | some e =>
     obtain ⟨l,k1,k2,k3⟩:=zr _ _ _ hf;simp only [Option.some.injEq,Bool.and_eq_true,beq_iff_eq,decide_eq_true_eq] at h;exact ⟨l,by simpa using h1,by simpa using h2,k1,k2,by omega,by omega⟩
theorem fD.nC {p:Src} {l:List T} (h:fD p l):nC p=some true:=by
 unfold Go.Sp.nC;rw [if_neg (by rw [h.globals];decide),if_neg (by rw [h.arrays];decide),show (0:Int)=((0:Nat):Int) from rfl,zq h.few _ _ _ h.st h.fns];simp only [Option.some.injEq,Bool.and_eq_true,beq_iff_eq,decide_eq_true_eq];have:=h.len;have:=h.few;omega
theorem Co {nodes:List Nd}:∀ (fns:List Fn) (next:Nat) (acc l:List T) (e:Nat),gW nodes fns next acc=some (l,e)->∃ l',l=acc++l'/\dm nodes next l'/\fm (fun _ _=>True) fns next l'/\e=next+ay l'/\lG l'
 | [],next,acc,l,e,h=>by rw [gW] at h;cases h;exact ⟨[],by simp,trivial,trivial,by simp [ay],trivial⟩
 | f::r,next,acc,l,e,h=>by
  rw [gW] at h
  cases hq:tr nodes next with
  | none=>rw [hq] at h;cases h
  | some x =>
   obtain ⟨t,e1⟩:=x;rw [hq] at h;simp only at h;split at h
   ·rename_i hb;obtain ⟨a1,a2,a3⟩:=Va _ _ _ _ hq;subst a2;obtain ⟨l',b1,b2,b3,b4,b5⟩:=Co r _ _ _ _ h;exact ⟨t::l',by rw [b1];simp,by rw [dm];exact ⟨a1,b2⟩,by rw [fm];exact ⟨hb,trivial,b3⟩,by rw [b4,ay];omega,by rw [lG];exact ⟨a3,b5⟩⟩
   ·cases h
theorem H2 {nodes:List Nd} {Q:Fn->T->Prop}:∀ (fns:List Fn) (next:Nat) (acc l:List T),dm nodes next l->fm Q fns next l->lG l->gW nodes fns next acc=some (acc++l,next+ay l)
 | [],next,acc,[],_,_,_=>by rw [gW,ay];simp
 | f::r,next,acc,t::l,h,hf,ha=>by
  rw [dm] at h;rw [fm] at hf;rw [lG] at ha;have hle:=eh.le t _ h.1;rw [gW,tr,Vj _ t next h.1 ha.1 (by omega)];simp only;rw [if_pos hf.1,H2 r _ _ l h.2 hf.2.2 ha.2,ay];simp [Nat.add_assoc]
 | [],_,_,t::l,_,h,_=>by cases h
 | f::r,_,_,[],_,h,_=>by cases h
mutual
theorem eh.fl {nodes:List Nd}:∀ (t:T) (a:Nat),eh nodes a t->(nodes.take (a+aK t)).drop a=ly a t
 | .mk n l,a,h=>by
  have hle:=eh.le _ _ h;rw [eh] at h;rw [aK] at hle;have h1:=dm.fl l (a+1) h.2.2 (by have:=(List.getElem?_eq_some_iff.1 h.1).1;omega);rw [ly,<-h.2.1,<-h1,aK,show a+(ay l+1)=a+1+ay l by omega]
  have h2:(nodes.take (a+1+ay l))[a]?=some n:=by rw [getElem?_take,if_pos (by omega)];exact h.1
  obtain ⟨h3,h4⟩:=List.getElem?_eq_some_iff.1 h2;rw [List.drop_eq_getElem_cons h3,h4]
theorem dm.fl {nodes:List Nd}:∀ (l:List T) (a:Nat),dm nodes a l->a<=nodes.length->(nodes.take (a+ay l)).drop a=dW a l
 | [],a,h,ha=>by
  rw [dW];exact eq_nil_of_length_eq_zero (by rw [ay,length_drop,length_take];omega)
 | t::r,a,h,ha=>by
  rw [dm] at h;have hle:=eh.le _ _ h.1;have h1:=eh.fl t a h.1;have h2:=dm.fl r (a+aK t) h.2 hle;have AK:=dm.le r _ h.2 hle;rw [dW,<-h1,<-h2,ay,show a+(aK t+ay r)=a+aK t+ay r by omega]
  have h3:nodes.take (a+aK t)=(nodes.take (a+aK t+ay r)).take (a+aK t):=by rw [List.take_take,Nat.min_eq_left (by omega)]
  rw [h3];generalize hm:nodes.take (a+aK t+ay r)=m
  have dO:m.length=a+aK t+ay r:=by rw [<-hm,length_take];omega
  rw [<-List.drop_append_of_le_length (by rw [length_take];omega),take_append_drop]
end
theorem dm.all {nodes:List Nd} {l:List T} (h:dm nodes 0 l) (hl:ay l=nodes.length):nodes=dW 0 l:=by
 have:=dm.fl l 0 h (Nat.zero_le _);rw [Nat.zero_add,hl,List.take_length,List.drop_zero] at this;exact this
end Go.Im
namespace Go.Im
open Go.Xp Go.Sp
def nw (n:Int):ah:=if n < 0 then 45::cm n.natAbs else cm n.toNat
def rq (s:ah):Int:=match levels.findIdx? (fun l=>l.contains s) with | some i=>(i:Int) | none => -1
def tO (b:Bool) (x:ah):ah:=if b=true then (40::x)++[41] else x
def kR (t:T) (least:Int):Bool:=(t.n.kind==6)&&decide (rq t.n.s < least)
def tD (n:Nd) (l:List T) (x:List ah):ah :=
 if n.kind=1 then nw n.n
 else if n.kind=3 then ((n.s++[91])++x.getD 0 [])++[93]
 else if n.kind=4 then ((n.s++[40])++bt x)++[41]
 else if n.kind=5 then (n.s++[32])++(match l with | a::_=>tO (a.n.kind==6) (x.getD 0 []) | []=>[])
 else if n.kind=6 then (match l with
  | a::b::_=>(((tO (kR a (rq n.s)) (x.getD 0 [])++[32])++n.s)++[32])++tO (kR b (rq n.s+1)) (x.getD 1 [])
  | _=>[])
 else n.s
mutual
def cE:T->ah
 | .mk n l=>tD n l (ft l)
def ft:List T->List ah
 | []=>[]
 | t::r=>cE t::ft r
end
theorem NX (t:T):cE t=tD t.n t.kids (ft t.kids):=by cases t;rw [cE];rfl
theorem C0 (l:List T):ft l=l.map cE:=by
 induction l with
 | nil=>rfl
 | cons t l ih=>rw [ft,ih];rfl
mutual
def jm:T->Nat
 | .mk n l=>n.s.length+60+fF l
def fF:List T->Nat
 | []=>0
 | t::r=>jm t+fF r
end
theorem oo (t:T):jm t=t.n.s.length+60+fF t.kids:=by cases t;rw [jm];rfl
theorem tH {l:List T} {t:T} (h:t∈l):jm t<=fF l:=by
 induction l with
 | nil=>cases h
 | cons a l ih =>
  rw [fF]
  rcases List.mem_cons.1 h with rfl | h
  ·omega
  ·have:=ih h;omega
theorem Px (l:List T):l.length * 60<=fF l:=by
 induction l with
 | nil=>simp
 | cons t l ih=>rw [fF,oo,length_cons];omega
theorem Dj {n:Nat} (h:n < 100000000000000000000):(cm n).length<=20:=H7 19 n (by simpa using h)
theorem xX {n:Int} (h : -9223372036854775808<=n/\n<=9223372036854775807):(nw n).length<=21:=by
 unfold nw;split
 ·have:=Dj (n:=n.natAbs) (by omega);simp only [length_cons];omega
 ·have:=Dj (n:=n.toNat) (by omega);omega
theorem yA (b:Bool) (x:ah):(tO b x).length<=x.length+2:=by
 unfold tO;split <;> simp
theorem Fb:∀ (r:List ah),(r.flatMap fun y=>44::32::y).length=(r.map fun y=>y.length+2).sum
 | []=>rfl
 | z::r=>by
  have:=Fb r;simp only [flatMap_cons,length_append,List.map_cons,sum_cons,length_cons] at this |-;omega
theorem AV:∀ (x:List ah),(bt x).length<=(x.map fun y=>y.length+2).sum
 | []=>by simp [bt]
 | y::r=>by
  have h:=Fb r;rw [List.map_cons,sum_cons,bt,length_append,h];omega
mutual
def oE:T->Prop
 | .mk n l=>(-9223372036854775808<=n.n/\n.n<=9223372036854775807)/\pK l
def pK:List T->Prop
 | []=>True
 | t::r=>oE t/\pK r
end
theorem qz (t:T):oE t↔(-9223372036854775808<=t.n.n/\t.n.n<=9223372036854775807)/\pK t.kids:=by cases t;rw [oE];exact Iff.rfl
theorem jl {l:List T} {t:T} (h:pK l) (ht:t∈l):oE t:=by
 induction l with
 | nil=>cases ht
 | cons a l ih =>
  rw [pK] at h
  rcases List.mem_cons.1 ht with rfl | ht
  ·exact h.1
  ·exact ih h.2 ht
theorem vK:∀ (N:Nat) (t:T),aK t<=N->oE t->(cE t).length+4<=jm t:=by
 intro N
 induction N with
 | zero=>intro t h;rw [dZ] at h;omega
 | succ N ih =>
  intro t hN hn;rw [dZ] at hN;rw [qz] at hn
  have hk:∀ a∈t.kids,(cE a).length+4<=jm a:=fun a ha=>by
   refine ih a ?_ (jl hn.2 ha)
   have:∀ (l:List T),a∈l->aK a<=ay l:=by
    intro l
    induction l with
    | nil=>intro h;cases h
    | cons b l ih2 =>
     intro h;rw [ay]
     rcases List.mem_cons.1 h with rfl | h
     ·omega
     ·have:=ih2 h;omega
   have:=this _ ha;omega
  have Up:((ft t.kids).map fun y=>y.length+2).sum<=fF t.kids:=by
   have:∀ (l:List T),(∀ a∈l,(cE a).length+4<=jm a)->((ft l).map fun y=>y.length+2).sum<=fF l:=by
    intro l
    induction l with
    | nil=>intro _;simp [ft]
    | cons a l ih2 =>
     intro h;have h1:=h a (mem_cons_self)
     have h2:=ih2 fun b hb=>h b (mem_cons_of_mem _ hb)
     rw [ft,fF,List.map_cons,sum_cons];omega
   exact this _ hk
  have h0:((ft t.kids).getD 0 []).length<=fF t.kids:=by
   cases hl:t.kids with
   | nil=>simp [ft]
   | cons a r =>
    have:=hk a (by rw [hl];exact mem_cons_self);rw [ft,fF];simp;omega
  have Y0:∀ a b r,t.kids=a::b::r->((ft t.kids).getD 0 []).length+((ft t.kids).getD 1 []).length+8<=fF t.kids:=fun a b r hl=>by
   have h1:=hk a (by rw [hl];exact mem_cons_self);have h2:=hk b (by rw [hl];exact mem_cons_of_mem _ mem_cons_self);rw [hl,ft,ft,fF,fF];simp;omega
  rw [NX,oo];unfold tD;split
  ·have:=xX hn.1;omega
  ·split
   ·simp only [length_append,length_cons,length_nil];omega
   ·split
    ·have:=AV (ft t.kids);simp only [length_append,length_cons,length_nil];omega
    ·split
     ·cases hl:t.kids with
      | nil=>simp <;> omega
      | cons a r =>
       simp only [length_append,length_cons,length_nil];have:=yA (a.n.kind==6) ((ft (a::r)).getD 0 []);rw [hl] at h0;omega
     ·split
      ·match hl:t.kids with
       | []=>simp <;> omega
       | [a]=>simp <;> omega
       | a::b::r =>
        have h1:=Y0 a b r hl;rw [hl] at h1;have h2:=yA (kR a (rq t.n.s)) ((ft (a::b::r)).getD 0 []);have h3:=yA (kR b (rq t.n.s+1)) ((ft (a::b::r)).getD 1 []);simp only [length_append,length_cons,length_nil];omega
      ·omega
end Go.Im
namespace Go.Im
open Go.Xp Go.Sp
def xc (own:ah) (n:Nd) (k:Nat) (x b:List ah):ah :=
 if n.kind=13 then ((([118,97,114,32]++n.s)++[32,61,32])++x.getD 0 [])++[59]
 else if n.kind=7 then ((n.s++[32,61,32])++x.getD 0 [])++[59]
 else if n.kind=8 then ((((n.s++[91])++x.getD 0 [])++[93,32,61,32])++x.getD 1 [])++[59]
 else if n.kind=9 then (if k=3 then ((([105,102,32,40]++x.getD 0 [])++[41,32])++b.getD 1 [])++([32,101,108,115,101,32]++b.getD 2 []) else (([105,102,32,40]++x.getD 0 [])++[41,32])++b.getD 1 [])
 else if n.kind=10 then (([119,104,105,108,101,32,40]++x.getD 0 [])++[41,32])++b.getD 1 []
 else if n.kind=11 then ([114,101,116,117,114,110,32]++x.getD 0 [])++[59]
 else if n.kind=12 then x.getD 0 []++[59]
 else own
section
variable (tx:T->ah) (inl:List ah->Nat->ah)
mutual
def jD:Nat->T->ah
 | d,.mk n l=>xc (tx (.mk n l)) n l.length (l.map tx) (pg d l)
def pg:Nat->List T->List ah
 | _,[]=>[]
 | d,t::r=>mr d t::pg d r
def mr:Nat->T->ah
 | d,.mk n l=>inl (xb (d+1) l) d
def xb:Nat->List T->List ah
 | _,[]=>[]
 | d,t::r=>jD d t::xb d r
end
end
theorem NR (tx:T->ah) (inl:List ah->Nat->ah) (d:Nat) (t:T):jD tx inl d t=xc (tx t) t.n t.kids.length (t.kids.map tx) (pg tx inl d t.kids):=by cases t;rw [jD];rfl
theorem LB (tx:T->ah) (inl:List ah->Nat->ah) (d:Nat) (t:T):mr tx inl d t=inl (xb tx inl (d+1) t.kids) d:=by cases t;rw [mr];rfl
theorem H0 (tx:T->ah) (inl:List ah->Nat->ah) (d:Nat) (l:List T):pg tx inl d l=l.map (mr tx inl d):=by
 induction l with
 | nil=>rfl
 | cons t l ih=>rw [pg,ih];rfl
theorem Jj (tx:T->ah) (inl:List ah->Nat->ah) (d:Nat) (l:List T):xb tx inl d l=l.map (jD tx inl d):=by
 induction l with
 | nil=>rfl
 | cons t l ih=>rw [xb,ih];rfl
def rD (acc:ah) (l:List ah):ah:=l.foldl (fun acc s=>acc++(s++[32])) acc
def fi (l:List ah) (d:Nat):ah:=rD [123,32] l++[125]
def jQ:List ah->Nat
 | []=>0
 | s::l=>s.length+1+jQ l
theorem sx (l:List ah):∀ acc,(rD acc l).length=acc.length+jQ l:=by
 induction l with
 | nil=>intro acc;simp [rD,jQ]
 | cons s l ih =>
  intro acc;have:=ih (acc++(s++[32]));simp only [rD,foldl_cons,jQ,length_append,length_cons,length_nil] at this |-;omega
theorem GK (a b:List ah):jQ (a++b)=jQ a+jQ b:=by
 induction a with
 | nil=>simp [jQ]
 | cons s a ih=>simp only [cons_append,jQ,ih];omega
theorem NT (l:List ah) (k:Nat):jQ (l.take k)<=jQ l:=by
 have:jQ l=jQ (l.take k)+jQ (l.drop k):=by rw [<-GK,take_append_drop]
 omega
theorem LI (acc:ah) (l:List ah) (s:ah):rD acc (l++[s])=rD acc l++(s++[32]):=by simp [rD]
theorem SN {l:List ah} {s:ah} (h:s∈l):s.length<=jQ l:=by
 induction l with
 | nil=>cases h
 | cons a l ih =>
  rw [jQ]
  rcases List.mem_cons.1 h with rfl | h
  ·omega
  ·have:=ih h;omega
theorem Pf {l:List ah} {d:Nat} {s:ah} (h:s∈l):s.length<=(fi l d).length:=by
 have h1:=SN h;have h2:=sx l [123,32];unfold fi;rw [length_append,h2];omega
end Go.Im
namespace Go.Im
open Go.Xp Go.Sp
def g1 (s:ah):ah:=([105,110,116,32]++s)++[59,10]
def a1 (a:Ar):ah:=((([105,110,116,32]++a.name)++[91])++nw a.size)++[93,59,10]
def f1 (tx:T->ah) (inl:List ah->Nat->ah) (x:Fn × T):ah:=((((([102,117,110,99,32]++x.1.name)++[40])++bt x.1.params)++[41,32])++mr tx inl 0 x.2)++[10]
def c8 {α:Type} (f:α->ah):ah->List α->ah
 | acc,[]=>acc
 | acc,x::l=>c8 f (acc++f x) l
theorem xl {α:Type} (f:α->ah) (l:List α) (x:α):∀ acc,c8 f acc (l++[x])=c8 f acc l++f x:=by
 induction l with
 | nil=>intro acc;rfl
 | cons y l ih=>intro acc;simp only [cons_append,c8];exact ih _
theorem OD {α:Type} (f:α->ah) (l k:List α):∀ acc,c8 f acc (l++k)=c8 f (c8 f acc l) k:=by
 induction l with
 | nil=>intro acc;rfl
 | cons y l ih=>intro acc;simp only [cons_append,c8];exact ih _
theorem Ct {α:Type} (f:α->ah) (l:List α):∀ acc,acc.length<=(c8 f acc l).length:=by
 induction l with
 | nil=>intro acc;exact Nat.le_refl _
 | cons y l ih=>intro acc;have:=ih (acc++f y);rw [c8];rw [length_append] at this;omega
theorem xm {α:Type} (f:α->ah) (l:List α) (k:Nat) (acc:ah):(c8 f acc (l.take k)).length<=(c8 f acc l).length:=by
 have:c8 f acc l=c8 f (c8 f acc (l.take k)) (l.drop k):=by rw [<-OD,take_append_drop]
 rw [this];exact Ct f _ _
def ml (tx:T->ah) (inl:List ah->Nat->ah) (p:Src) (trees:List T):ah:=c8 (f1 tx inl) (c8 a1 (c8 g1 [] p.globals) p.arrays) (p.fns.zip trees)
end Go.Im
namespace Go.Im
def eU {α:Type} (p:α->α->Bool):List α->List α->Bool
 | [],[]=>true
 | a::r,b::s=>p a b&&eU p r s
 | _,_=>false
theorem yE {α:Type} {p:α->α->Bool}:∀ {a b:List α},eU p a b=true->a.length=b.length
 | [],[],_=>rfl
 | a::r,b::s,h=>by rw [eU,Bool.and_eq_true] at h;rw [length_cons,length_cons,yE h.2]
 | [],b::s,h=>by cases h
 | a::r,[],h=>by cases h
theorem qX {α:Type} {p:α->α->Bool} {a b:List α} (h:a.length≠b.length):eU p a b=false:=by
 cases hc:eU p a b with
 | false=>rfl
 | true=>exact absurd (yE hc) h
theorem EO {α:Type} {p:α->α->Bool}:∀ {a b:List α} {k:Nat} {x y:α},a[k]?=some x->b[k]?=some y->eU p a b=true->p x y=true
 | a::r,b::s,0,x,y,h1,h2,h=>by cases h1;cases h2;rw [eU,Bool.and_eq_true] at h;exact h.1
 | a::r,b::s,k+1,x,y,h1,h2,h=>by rw [eU,Bool.and_eq_true] at h;exact EO (by simpa using h1) (by simpa using h2) h.2
 | [],_,k,x,y,h1,h2,h=>by simp at h1
 | a::r,[],k,x,y,h1,h2,h=>by simp at h2
theorem qY {α:Type} {p:α->α->Bool} {a b:List α} {k:Nat} {x y:α} (h1:a[k]?=some x) (h2:b[k]?=some y) (h:p x y=false):eU p a b=false:=by
 cases hc:eU p a b with
 | false=>rfl
 | true=>have:=EO h1 h2 hc;rw [h] at this;cases this
theorem Ic {α:Type} {p:α->α->Bool}:∀ {a b:List α},a.length=b.length->(∀ (k:Nat) x y,a[k]?=some x->b[k]?=some y->p x y=true)->eU p a b=true
 | [],[],_,_=>rfl
 | a::r,b::s,hl,h=>by
  rw [eU,h 0 a b rfl rfl,Ic (by simpa using hl) fun k x y h1 h2=>h (k+1) x y (by simpa using h1) (by simpa using h2)];rfl
 | [],b::s,hl,h=>by simp at hl
 | a::r,[],hl,h=>by simp at hl
def sB {α:Type} (p:α->α->Bool) (a b:List α) (k:Nat):Prop:=∀ j x y,j < k->a[j]?=some x->b[j]?=some y->p x y=true
theorem lx {α:Type} {p:α->α->Bool} {a b:List α} {k:Nat} {x y:α} (h1:a[k]?=some x) (h2:b[k]?=some y) (h:sB p a b k) (hp:p x y=true):sB p a b (k+1):=fun j u v hj h3 h4=>by
 by_cases he:j=k
 ·subst he;rw [h1] at h3;rw [h2] at h4;cases h3;cases h4;exact hp
 ·exact h j u v (by omega) h3 h4
theorem mJ {α:Type} {p:α->α->Bool} {a b:List α} (hl:a.length=b.length) (h:sB p a b a.length):eU p a b=true :=
 Ic hl fun k x y h1 h2=>h k x y (List.getElem?_eq_some_iff.1 h1).1 h1 h2
def qQ (a b:Go.Sp.Fn):Bool:=((a.name==b.name)&&eU (fun x y=>x==y) a.params b.params)&&(a.body==b.body)
def km (a b:Go.Xp.Nd):Bool:=(((a.kind==b.kind)&&(a.n==b.n))&&(a.s==b.s))&&eU (fun x y=>x==y) a.kids b.kids
def zn (x y:Go.Xp.Ar):Bool:=(x.name==y.name)&&(x.size==y.size)
end Go.Im
namespace Go.Im
open Go.Xp Go.Sp
theorem Ii (l:List T):(aI l).length=l.length:=by rw [r6,length_map]
theorem xt (t:T):(er t).n=⟨t.n.kind,0,t.n.n,t.n.s,[]⟩:=by cases t;rw [er];rfl
theorem RT (t:T):(er t).kids=aI t.kids:=by cases t;rw [er];rfl
mutual
theorem vJ:∀ t:T,aK (er t)=aK t
 | .mk n l=>by rw [er,aK,aK,vI l]
theorem vI:∀ l:List T,ay (aI l)=ay l
 | []=>by rw [aI]
 | t::r=>by rw [aI,ay,ay,vJ t,vI r]
end
theorem DH (m:Nat):∀ (l:List T) (i:Nat),bc m i (aI l)=bc m i l
 | [],i=>by rw [aI]
 | t::r,i=>by rw [aI,bc,bc,DH m r (i+1),xt]
theorem D2:∀ (l:List T),(aI l).all (fun x=>fT x.n.kind)=l.all (fun x=>fT x.n.kind)
 | []=>by rw [aI]
 | t::r=>by rw [aI,all_cons,all_cons,D2 r,xt]
theorem UX (n:Nd) (k:Nat) (kd:Nat->Bool) (bl:Bool) (h:0<=n.at_) (h':own ⟨n.kind,0,n.n,n.s,[]⟩ k kd bl=true):own n k kd bl=true:=by
 unfold own at h' |-;rw [if_neg (by simp)] at h';rw [if_neg (by simpa using h)];exact h'
mutual
theorem Lx:∀ t:T,cS (er t)=true->xi t->cS t=true
 | .mk n l,h,ha=>by
  rw [er,cS,Bool.and_eq_true] at h;rw [xi] at ha;rw [cS,Bool.and_eq_true];refine ⟨HY l h.1 ha.2,?_⟩;have h2:own ⟨n.kind,0,n.n,n.s,[]⟩ (aI l).length (fun m=>bc m 0 (aI l)) ((aI l).all fun x=>fT x.n.kind)=true:=h.2;rw [Ii,D2] at h2;simp only [DH] at h2;exact UX n _ _ _ ha.1 h2
theorem HY:∀ l:List T,bN (aI l)=true->lG l->bN l=true
 | [],_,_=>rfl
 | t::r,h,ha=>by
  rw [aI,bN,Bool.and_eq_true] at h;rw [lG] at ha;rw [bN,Bool.and_eq_true];exact ⟨Lx t h.1 ha.1,HY r h.2 ha.2⟩
end
mutual
theorem Lw:∀ t:T,cS t=true->xi t
 | .mk n l,h=>by
  rw [cS,Bool.and_eq_true] at h;rw [xi];refine ⟨?_,HX l h.1⟩;have h2:own n l.length (fun m=>bc m 0 l) (l.all fun x=>fT x.n.kind)=true:=h.2
  by_cases h0:n.at_ < 0
  ·unfold own at h2;rw [if_pos (by simpa using h0)] at h2;cases h2
  ·omega
theorem HX:∀ l:List T,bN l=true->lG l
 | [],_=>trivial
 | t::r,h=>by
  rw [bN,Bool.and_eq_true] at h;rw [lG];exact ⟨Lw t h.1,HX r h.2⟩
end
theorem jY (a:E):lZ a.tree.n.kind=true:=by cases a <;> rfl
mutual
theorem E.fw:∀ a:E,a.ok=true->cS a.tree=true
 | .num n,h=>by
  simp only [E.ok,Bool.and_eq_true] at h;rw [E.tree,cS,bN];simp [bF,own,T.n,T.kids];exact h
 | .name s,h=>by
  simp only [E.ok] at h;rw [E.tree,cS,bN];simp [bF,own,T.n,T.kids,h]
 | .at_ s a,h=>by
  simp only [E.ok,Bool.and_eq_true] at h;have h2:=E.fw a h.2;have h3:=jY a;rw [E.tree,cS,bN,bN,h2];simp [bF,own,T.n,T.kids,h.1,bc];exact h3
 | .call s l,h=>by
  simp only [E.ok,Bool.and_eq_true] at h;obtain ⟨h2,h3⟩:=E.rz l h.2;rw [E.tree,cS,h2];have:=h3 (E.trees l).length 0 (by omega);simp [bF,own,T.n,T.kids,h.1,this]
 | .un s a,h=>by
  simp only [E.ok,Bool.and_eq_true] at h;have h2:=E.fw a h.2;have h3:=jY a;rw [E.tree,cS,bN,bN,h2];simp [bF,own,T.n,T.kids,bc];exact ⟨by simpa using h.1,h3⟩
 | .bin s a b,h=>by
  simp only [E.ok,Bool.and_eq_true] at h;have h2:=E.fw a h.1.2;have h3:=jY a;have h4:=E.fw b h.2;have h5:=jY b;rw [E.tree,cS,bN,bN,bN,h2,h4];simp [bF,own,T.n,T.kids,bc,h.1.1];exact ⟨h3,h5⟩
theorem E.rz:∀ l:List E,E.cD l=true->bN (E.trees l)=true/\∀ m i,i+(E.trees l).length<=m->bc m i (E.trees l)=true
 | [],_=>⟨rfl,fun m i _=>rfl⟩
 | a::l,h=>by
  simp only [E.cD,Bool.and_eq_true] at h;obtain ⟨h2,h3⟩:=E.rz l h.2;refine ⟨by rw [E.trees,bN,E.fw a h.1,h2];rfl,fun m i hm=>?_⟩;rw [E.trees,length_cons] at hm;rw [E.trees,bc,if_pos (by omega),jY a,h3 m (i+1) (by omega)];rfl
end
theorem U3 (a:S):fT a.tree.n.kind=true:=by cases a <;> rfl
mutual
theorem S.fw:∀ a:S,a.ok=true->cS a.tree=true
 | .set s a,h=>by
  simp only [S.ok,Bool.and_eq_true] at h;have h2:=E.fw a h.2;have h3:=jY a;rw [S.tree,cS,bN,bN,h2];simp [bF,own,T.n,T.kids,h.1,bc];exact h3
 | .var s a,h=>by
  simp only [S.ok,Bool.and_eq_true] at h;have h2:=E.fw a h.2;have h3:=jY a;rw [S.tree,cS,bN,bN,h2];simp [bF,own,T.n,T.kids,h.1,bc];exact h3
 | .ret a,h=>by
  simp only [S.ok] at h;have h2:=E.fw a h;have h3:=jY a;rw [S.tree,cS,bN,bN,h2];simp [bF,own,T.n,T.kids,bc];exact h3
 | .do_ a,h=>by
  simp only [S.ok] at h;have h2:=E.fw a h;have h3:=jY a;rw [S.tree,cS,bN,bN,h2];simp [bF,own,T.n,T.kids,bc];exact h3
 | .put s a b,h=>by
  simp only [S.ok,Bool.and_eq_true] at h;have h2:=E.fw a h.2.1;have h3:=jY a;have h4:=E.fw b h.2.2;have h5:=jY b;rw [S.tree,cS,bN,bN,bN,h2,h4];simp [bF,own,T.n,T.kids,bc,h.1];exact ⟨h3,h5⟩
 | .if1 c b,h=>by
  simp only [S.ok,Bool.and_eq_true] at h;have h2:=E.fw c h.1;have h3:=jY c;have h4:=S.uS b h.2;rw [S.tree,cS,bN,bN,bN,h2,h4];simp [bF,own,T.n,T.kids,bc];exact h3
 | .if2 c b b2,h=>by
  simp only [S.ok,Bool.and_eq_true] at h;have h2:=E.fw c h.1;have h3:=jY c;have h4:=S.uS b h.2.1;have h5:=S.uS b2 h.2.2;rw [S.tree,cS,bN,bN,bN,bN,h2,h4,h5];simp [bF,own,T.n,T.kids,bc];exact h3
 | .while_ c b,h=>by
  simp only [S.ok,Bool.and_eq_true] at h;have h2:=E.fw c h.1;have h3:=jY c;have h4:=S.uS b h.2;rw [S.tree,cS,bN,bN,bN,h2,h4];simp [bF,own,T.n,T.kids,bc];exact h3
theorem S.uS:∀ l:List S,S.cD l=true->cS (.mk ⟨14,0,0,[],[]⟩ (S.trees l))=true
 | l,h=>by
  obtain ⟨h1,h2⟩:=S.rz l h;have h3:bF (.mk ⟨14,0,0,[],[]⟩ (S.trees l))=own ⟨14,0,0,[],[]⟩ (S.trees l).length (fun m=>bc m 0 (S.trees l)) ((S.trees l).all fun x=>fT x.n.kind):=rfl;rw [cS,h1,h3,h2];simp [own]
theorem S.rz:∀ l:List S,S.cD l=true->bN (S.trees l)=true/\(S.trees l).all (fun x=>fT x.n.kind)=true
 | [],_=>⟨rfl,rfl⟩
 | a::l,h=>by
  simp only [S.cD,Bool.and_eq_true] at h;obtain ⟨h1,h2⟩:=S.rz l h.2;exact ⟨by rw [S.trees,bN,S.fw a h.1,h1];rfl,by rw [S.trees,all_cons,h2,U3 a];rfl⟩
end
theorem Ww {n:Nd} {k:Nat} {kd:Nat->Bool} {bl:Bool} (h:own n k kd bl=true):cL n.kind k=true:=by
 have hc:n.kind=1\/n.kind=2\/n.kind=3\/n.kind=4\/n.kind=5\/n.kind=6\/n.kind=7\/n.kind=8\/n.kind=9\/n.kind=10\/n.kind=11\/n.kind=12\/n.kind=13\/n.kind=14\/(n.kind < 1\/14 < n.kind):=by omega
 unfold own at h
 by_cases h0:decide (n.at_ < 0)=true
 ·rw [if_pos h0] at h;cases h
 rw [if_neg h0] at h
 by_cases h1:(n.kind != 1&&n.n != 0)=true
 ·rw [if_pos h1] at h;cases h
 rw [if_neg h1] at h;clear h0 h1
 rcases hc with hk | hk | hk | hk | hk | hk | hk | hk | hk | hk | hk | hk | hk | hk | hk
 all_goals (first | (simp [hk] at h;simp [cL,hk];done) | (simp [hk] at h;simp [cL,hk];omega) | (simp [hk] at h;simp [cL,hk,h];done) | skip)
 ·exfalso
  have e1:(n.kind==1)=false:=by simp;omega
  have e2:(n.kind==2)=false:=by simp;omega
  have e3:(n.kind==3)=false:=by simp;omega
  have e4:(n.kind==4)=false:=by simp;omega
  have e5:(n.kind==5)=false:=by simp;omega
  have e6:(n.kind==6)=false:=by simp;omega
  have e7:(n.kind==7)=false:=by simp;omega
  have e8:(n.kind==8)=false:=by simp;omega
  have e9:(n.kind==9)=false:=by simp;omega
  have WM:(n.kind==10)=false:=by simp;omega
  have YN:(n.kind==11)=false:=by simp;omega
  have YO:(n.kind==12)=false:=by simp;omega
  have YP:(n.kind==13)=false:=by simp;omega
  have YR:(n.kind==14)=false:=by simp;omega
  rw [e1,e2,e3,e4,e5,e6,e7,e8,e9,WM,YN,YO,YP,YR] at h;simp at h
mutual
theorem Qt:∀ t:T,cS t=true->fH t=true
 | .mk n l,h=>by
  rw [cS,Bool.and_eq_true] at h;rw [fH,Ly l h.1,Bool.and_true];exact Ww h.2
theorem Ly:∀ l:List T,bN l=true->uC l=true
 | [],_=>rfl
 | t::r,h=>by
  rw [bN,Bool.and_eq_true] at h;rw [uC,Qt t h.1,Ly r h.2];rfl
end
theorem Py (t:T) (z:Int):kR (er t) z=kR t z:=by unfold kR;rw [xt]
theorem SR (n:Nd) (l:List T) (x:List ah):tD ⟨n.kind,0,n.n,n.s,[]⟩ (aI l) x=tD n l x:=by
 unfold tD
 match l with
 | []=>rw [aI]
 | [a]=>rw [aI,aI];simp only [xt]
 | a::b::r=>rw [aI,aI];simp only [xt,Py]
mutual
theorem NY:∀ t:T,cE (er t)=cE t
 | .mk n l=>by rw [er,cE,cE,CZ l,SR]
theorem CZ:∀ l:List T,ft (aI l)=ft l
 | []=>by rw [aI]
 | t::r=>by rw [aI,ft,ft,NY t,CZ r]
end
mutual
theorem U8 (inl:List ah->Nat->ah):∀ (t:T) (d:Nat),jD cE inl d (er t)=jD cE inl d t
 | .mk n l,d=>by
  have h:=NY (.mk n l);rw [er] at h |-;rw [jD,jD,h,HZ inl l d,Ii]
  have:(aI l).map cE=l.map cE:=by rw [<-C0,<-C0,CZ]
  rw [this];rfl
theorem HZ (inl:List ah->Nat->ah):∀ (l:List T) (d:Nat),pg cE inl d (aI l)=pg cE inl d l
 | [],d=>by rw [aI]
 | t::r,d=>by rw [aI,pg,pg,LC inl t d,HZ inl r d]
theorem LC (inl:List ah->Nat->ah):∀ (t:T) (d:Nat),mr cE inl d (er t)=mr cE inl d t
 | .mk n l,d=>by rw [er,mr,mr,Ji inl l (d+1)]
theorem Ji (inl:List ah->Nat->ah):∀ (l:List T) (d:Nat),xb cE inl d (aI l)=xb cE inl d l
 | [],d=>by rw [aI]
 | t::r,d=>by rw [aI,xb,xb,U8 inl t d,Ji inl r d]
end
theorem Nl {s:ah} (h:ek s=true):rq s=(dG s:Int):=by
 unfold rq dG
 cases hf:levels.findIdx? (fun l=>l.contains s) with
 | some i=>rfl
 | none =>
  rw [List.findIdx?_eq_none_iff] at hf;unfold ek at h;rw [any_eq_true] at h;obtain ⟨l,h1,h2⟩:=h;have:=hf l h1;rw [h2] at this;cases this
theorem IX {a:E} (h:a.ok=true) (k:Nat) (hk:k<=9):kR a.tree (k:Int)=decide (a.lv < k):=by
 have key:∀ b:Bool,(false&&b)=decide (9 < k):=fun b=>by rw [Bool.false_and,decide_eq_false (by omega)]
 cases a with
 | bin s x y =>
  simp only [E.ok,Bool.and_eq_true] at h;show (true&&decide (rq s < (k:Int)))=decide (dG s < k);rw [Nl h.1.1,Bool.true_and];exact decide_eq_decide.2 (by omega)
 | num n=>exact key _
 | name n=>exact key _
 | at_ s a=>exact key _
 | call s l=>exact key _
 | un s a=>exact key _
theorem Cr (lv k:Nat) (x:ah):tO (decide (lv < k)) x=pX lv k x:=by
 unfold tO pX
 by_cases h:lv < k
 ·rw [if_pos (by simpa using h),if_pos h]
 ·rw [if_neg (by simpa using h),if_neg h]
theorem S8 {a:E} (h:a.ok=true):(a.tree.n.kind==6)=decide (a.lv < 9):=by
 cases a with
 | bin s x y =>
  simp only [E.ok,Bool.and_eq_true] at h;have:=(oU h.1.1).1;show true=decide (dG s < 9);exact (decide_eq_true this).symm
 | _=>rfl
mutual
theorem iJ:∀ a:E,a.ok=true->cE a.tree=a.txt
 | .num n,h=>by
  simp only [E.ok,Bool.and_eq_true,decide_eq_true_eq] at h;rw [E.tree,cE,E.txt];unfold tD nw;simp only [if_true];rw [if_neg (by omega)]
 | .name s,h=>by
  rw [E.tree,cE,E.txt];simp [tD]
 | .at_ s a,h=>by
  simp only [E.ok,Bool.and_eq_true] at h;have h2:=iJ a h.2;rw [E.tree,cE,ft,ft,h2,E.txt];simp [tD]
 | .call s l,h=>by
  simp only [E.ok,Bool.and_eq_true] at h;rw [E.tree,cE,Jq l h.2,E.txt];simp [tD]
 | .un s a,h=>by
  simp only [E.ok,Bool.and_eq_true] at h;have h2:=iJ a h.2;rw [E.tree,cE,ft,ft,h2,E.txt,<-Cr,<-S8 h.2];simp [tD]
 | .bin s a b,h=>by
  simp only [E.ok,Bool.and_eq_true] at h;have h2:=iJ a h.1.2;have h3:=iJ b h.2;have hl:=(oU h.1.1).1;have e1:=IX h.1.2 (dG s) (by omega);have e2:=IX h.2 (dG s+1) (by omega);rw [E.tree,cE,ft,ft,ft,h2,h3,E.txt,<-Cr,<-Cr,<-e1,<-e2];unfold tD;simp only [Nl h.1.1];simp
theorem Jq:∀ l:List E,E.cD l=true->ft (E.trees l)=E.cy l
 | [],_=>rfl
 | a::l,h=>by
  simp only [E.cD,Bool.and_eq_true] at h;rw [E.trees,ft,E.cy,iJ a h.1,Jq l h.2]
end
theorem Dg (x:E->ah):∀ (l:List S) (acc:ah),rD acc (l.map (S.txt x))=S.cy x acc l
 | [],acc=>by rw [S.cy];rfl
 | a::l,acc=>by
  rw [S.cy,<-Dg x l];simp [rD,append_assoc]
mutual
theorem SK:∀ (s:S),s.ok=true->∀ d,jD cE fi d s.tree=s.txt E.txt
 | .set s a,h,d=>by
  simp only [S.ok,Bool.and_eq_true] at h;rw [S.tree,jD,List.map_cons,iJ a h.2,S.txt];simp [xc]
 | .var s a,h,d=>by
  simp only [S.ok,Bool.and_eq_true] at h;rw [S.tree,jD,List.map_cons,iJ a h.2,S.txt];simp [xc]
 | .ret a,h,d=>by
  simp only [S.ok] at h;rw [S.tree,jD,List.map_cons,iJ a h,S.txt];simp [xc]
 | .do_ a,h,d=>by
  simp only [S.ok] at h;rw [S.tree,jD,List.map_cons,iJ a h,S.txt];simp [xc]
 | .put s a b,h,d=>by
  simp only [S.ok,Bool.and_eq_true] at h;rw [S.tree,jD,List.map_cons,List.map_cons,iJ a h.2.1,iJ b h.2.2,S.txt];simp [xc]
 | .if1 c b,h,d=>by
  simp only [S.ok,Bool.and_eq_true] at h;have hb:=uR b h.2 d;rw [S.tree,jD,List.map_cons,iJ c h.1,pg,pg,pg,hb,S.txt];simp [xc,eM]
 | .if2 c b b2,h,d=>by
  simp only [S.ok,Bool.and_eq_true] at h;have hb:=uR b h.2.1 d;have eB:=uR b2 h.2.2 d;rw [S.tree,jD,List.map_cons,iJ c h.1,pg,pg,pg,pg,hb,eB,S.txt];simp [xc,eM]
 | .while_ c b,h,d=>by
  simp only [S.ok,Bool.and_eq_true] at h;have hb:=uR b h.2 d;rw [S.tree,jD,List.map_cons,iJ c h.1,pg,pg,pg,hb,S.txt];simp [xc,eM]
theorem uR:∀ (l:List S),S.cD l=true->∀ d,mr cE fi d (.mk ⟨14,0,0,[],[]⟩ (S.trees l))=eM E.txt l
 | l,h,d=>by
  rw [mr,Jk l h (d+1),fi,Dg];rfl
theorem Jk:∀ (l:List S),S.cD l=true->∀ d,xb cE fi d (S.trees l)=l.map (S.txt E.txt)
 | [],_,d=>by rw [S.trees,xb];rfl
 | a::l,h,d=>by
  simp only [S.cD,Bool.and_eq_true] at h;rw [S.trees,xb,List.map_cons,SK a h.1,Jk l h.2]
end
theorem qk {α:Type} {p:α->α->Bool} (h:∀ x,p x x=true):∀ l:List α,eU p l l=true
 | []=>rfl
 | a::l=>by rw [eU,h a,qk h l];rfl
theorem yD {α:Type} [BEq α] [LawfulBEq α]:∀ {a b:List α},eU (fun x y=>x==y) a b=true->a=b
 | [],[],_=>rfl
 | a::r,b::s,h=>by rw [eU,Bool.and_eq_true,beq_iff_eq] at h;rw [h.1,yD h.2]
 | [],b::s,h=>by cases h
 | a::r,[],h=>by cases h
theorem Ie {α:Type} {p:α->α->Bool}:∀ {a b:List α} {c d:List α},a.length=b.length->eU p (a++c) (b++d)=(eU p a b&&eU p c d)
 | [],[],c,d,_=>rfl
 | a::r,b::s,c,d,h=>by rw [cons_append,cons_append,eU,eU,Ie (by simpa using h),Bool.and_assoc]
 | [],b::s,_,_,h=>by simp at h
 | a::r,[],_,_,h=>by simp at h
theorem wj:∀ (l:List T) (a:Nat),bO a (aI l)=bO a l
 | [],a=>by rw [aI]
 | t::r,a=>by rw [aI,bO,bO,vJ,wj r]
mutual
theorem RX:∀ (t u:T) (a:Nat),er t=er u->eU km (ly a t) (ly a u)=true
 | .mk n l,.mk m k,a,h=>by
  rw [er,er] at h
  injection h with h1 h2
  injection h1 with h3 h4 h5 h6 h7
  rw [ly,ly,eU,Cz l k (a+1) h2,Bool.and_true,<-wj l,<-wj k,h2];simp only [km,h3,h5,h6];simp [qk]
theorem Cz:∀ (l k:List T) (a:Nat),aI l=aI k->eU km (dW a l) (dW a k)=true
 | [],[],a,_=>by rw [dW];rfl
 | t::r,u::s,a,h=>by
  rw [aI,aI] at h
  injection h with h1 h2
  have hz:aK t=aK u:=by rw [<-vJ t,h1,vJ u]
  rw [dW,dW,Ie (by rw [Iq,Iq,hz]),RX t u a h1,<-hz,Cz r s _ h2];rfl
 | [],u::s,a,h=>by rw [aI,aI] at h;cases h
 | t::r,[],a,h=>by rw [aI,aI] at h;cases h
end
mutual
theorem SH:∀ (t u:T) (a:Nat) (x y:List Nd),eU km (ly a t++x) (ly a u++y)=true->er t=er u/\eU km x y=true
 | .mk n l,.mk m k,a,x,y,h=>by
  rw [ly,ly,cons_append,cons_append,eU,Bool.and_eq_true] at h;obtain ⟨h1,h2⟩:=h;simp only [km,Bool.and_eq_true,beq_iff_eq] at h1;obtain ⟨⟨⟨h3,h4⟩,h5⟩,h6⟩:=h1;have h7:=congrArg List.length (yD h6);rw [dQ,dQ] at h7;obtain ⟨h8,h9⟩:=CY l k (a+1) x y h7 h2;exact ⟨by rw [er,er,h3,h4,h5,h8],h9⟩
theorem CY:∀ (l k:List T) (a:Nat) (x y:List Nd),l.length=k.length->eU km (dW a l++x) (dW a k++y)=true->aI l=aI k/\eU km x y=true
 | [],[],a,x,y,_,h=>by rw [dW,nil_append,nil_append] at h;exact ⟨rfl,h⟩
 | t::r,u::s,a,x,y,hl,h=>by
  rw [dW,dW,append_assoc,append_assoc] at h;obtain ⟨h1,h2⟩:=SH t u a _ _ h
  have hz:aK t=aK u:=by rw [<-vJ t,h1,vJ u]
  rw [<-hz] at h2;obtain ⟨h3,h4⟩:=CY r s _ x y (by simpa using hl) h2;exact ⟨by rw [aI,aI,h1,h3],h4⟩
 | [],u::s,a,x,y,hl,h=>by simp at hl
 | t::r,[],a,x,y,hl,h=>by simp at hl
end
theorem SG {l k:List T} (hl:l.length=k.length) (h:eU km (dW 0 l) (dW 0 k)=true):aI l=aI k:=by
 have:=CY l k 0 [] [] hl (by rw [append_nil,append_nil];exact h);exact this.1
end Go.Im
namespace Go.Im
open Go.Xp Go.Sp
structure PS where
 trees:List T
 globals:List ah
 arrays:List Ar
 fns:List (ah × List ah)
def PS.empty:PS:=⟨[],[],[],[]⟩
def od:Nat->List ah->RS->Option (List ah × RS)
 | 0,_,_=>none
 | f+1,acc,p =>
  if p.code=0/\is p 0 [41]=false then od f (acc++[(tok (if acc.length=0 then p else want p [44]) 0).s]) (be (if acc.length=0 then p else want p [44]))
  else some (acc,want p [41])
def iW (f:Nat) (p:RS) (st:PS):Option (RS × PS) :=
 if is p 0 kQ=true then
  if (be p.next).code=0/\is (be p.next) 0 [91]=true then
   if (tok (be p.next).next 0).kind=1 then
    some (want (want (be p.next).next.next [93]) [59],{ st with arrays:=st.arrays++[⟨(tok p.next 0).s,(tok (be p.next).next 0).n⟩] })
   else some (jH (be p.next).next,st)
  else some (want (be p.next) [59],{ st with globals:=st.globals++[(tok p.next 0).s] })
 else if is p 0 l6=true then
  match od f [] (want (be p.next) [40]) with
  | none=>none
  | some (l,q) =>
   if q.code=0 then match iS f (.block 1) q with
    | none=>none
    | some (t,q)=>some (q,{ st with trees:=st.trees++[t],fns:=st.fns++[((tok p.next 0).s,l)] })
   else some (q,st)
 else some (jH p,st)
def my:Nat->Nat->RS->PS->Option (RS × PS)
 | 0,_,_,_=>none
 | g+1,f,p,st =>
  if p.code=0/\p.i < p.l.length then match iW f p st with
   | none=>none
   | some (p,st)=>my g f p st
  else some (p,st)
theorem M0:∀ (f:Nat) (acc:List ah) (p:RS) (l:List ah) (q:RS),p.ok->od f acc p=some (l,q)->p.to q
 | 0,_,_,_,_,_,h=>by cases h
 | f+1,acc,p,l,q,hp,h=>by
  rw [od] at h;split at h
  ·have h1:p.to (if acc.length=0 then p else want p [44]):=by split;exact jo hp;exact bX hp _
   have h2:=gy (h1.ok hp);have h3:=M0 f _ _ l q ((h1.trans h2).ok hp) h;exact (h1.trans h2).trans h3
  ·cases h;exact bX hp _
theorem V2 {f:Nat} {p q:RS} {st dK:PS} (hp:p.ok) (h:iW f p st=some (q,dK)):p.to q:=by
 unfold iW at h;split at h
 ·rename_i hi;have h1:=jd hi;have h2:=h1.trans (gy (h1.ok hp));split at h
  ·rename_i hb;have h3:=h2.trans (jd hb.2);split at h
   ·rename_i hk
    have kY:(tok (be p.next).next 0).kind≠0:=by rw [hk];decide
    have h4:=h3.trans (dj (by have:=ry kY;exact this));have h5:=h4.trans (bX (h4.ok hp) [93])
    cases h;exact h5.trans (bX (h5.ok hp) _)
   ·cases h;exact h3.trans (wM (h3.ok hp))
  ·cases h;exact h2.trans (bX (h2.ok hp) _)
 ·split at h
  ·rename_i hi;have h1:=jd hi;have h2:=h1.trans (gy (h1.ok hp));have h3:=h2.trans (bX (h2.ok hp) [40])
   cases hm:od f [] (want (be p.next) [40]) with
   | none=>rw [hm] at h;cases h
   | some r =>
    obtain ⟨l,q1⟩:=r;rw [hm] at h;simp only at h;have h4:=h3.trans (M0 _ _ _ _ _ (h3.ok hp) hm);split at h
    ·cases hb:iS f (.block 1) q1 with
     | none=>rw [hb] at h;cases h
     | some r =>
      obtain ⟨t,q2⟩:=r;rw [hb] at h;cases h;exact h4.trans ((Em f).1 _ _ _ _ (h4.ok hp) hb)
    ·cases h;exact h4
  ·cases h;exact wM hp
structure PS.le (a:PS) (n:Nat):Prop where
 trees:a.trees.length<=n
 globals:a.globals.length<=n
 arrays:a.arrays.length<=n
 fns:a.fns.length=a.trees.length
theorem V0 {f n:Nat} {p q:RS} {st dK:PS} (h:iW f p st=some (q,dK)) (hs:st.le n):dK.le (n+1):=by
 obtain ⟨a,b,c,d⟩:=hs;have key:st.le (n+1):=⟨by omega,by omega,by omega,d⟩;unfold iW at h;split at h
 ·split at h
  ·split at h
   ·cases h;exact ⟨by simp;omega,by simp;omega,by simp;omega,by simp;omega⟩
   ·cases h;exact key
  ·cases h;exact ⟨by simp;omega,by simp;omega,by simp;omega,by simp;omega⟩
 ·split at h
  ·split at h
   ·cases h
   ·split at h
    ·split at h
     ·cases h
     ·cases h;exact ⟨by simp;omega,by simp;omega,by simp;omega,by simp;omega⟩
    ·cases h;exact key
  ·cases h;exact key
end Go.Im
namespace Go.Sp
open Go.Xp
inductive Tz (s:ah):Nat->List Tok->Nat->Prop
 | nil (a:Nat):Tz s a [] a
 | blank {a b:Nat} {c:UInt8} {ts:List Tok} (hc:s[a]?=some c) (hb:dw c=true) (h:Tz s (a+1) ts b):Tz s a ts b
 | tok {a a' b:Nat} {c:UInt8} {t:Tok} {ts:List Tok} (hc:s[a]?=some c) (hb:dw c=false) (hr:bo s a [47,42]=false) (ht:iq s a c=(t,a')) (hk:t.kind=1\/t.kind=2\/t.kind=3) (hn:t.n<=2147483647) (ha:a < a') (h:Tz s a' ts b):Tz s a (t::ts) b
theorem Tz.app {s:ah} {a b c:Nat} {ts us:List Tok} (h:Tz s a ts b) (k:Tz s b us c):Tz s a (ts++us) c:=by
 induction h with
 | nil a=>exact k
 | blank hc hb h ih=>exact .blank hc hb (ih k)
 | tok hc hb hr ht hk hn ha h ih=>exact .tok hc hb hr ht hk hn ha (ih k)
theorem Tz.kinds {s:ah} {a b:Nat} {ts:List Tok} (h:Tz s a ts b):∀ t∈ts,t.kind=1\/t.kind=2\/t.kind=3:=by
 induction h with
 | nil a=>intro t h;cases h
 | blank hc hb h ih=>exact ih
 | tok hc hb hr ht hk hn ha h ih =>
  intro t h
  rcases List.mem_cons.1 h with rfl | h
  ·exact hk
  ·exact ih t h
theorem Tz.len {s:ah} {a b:Nat} {ts:List Tok} (h:Tz s a ts b):a+ts.length<=b:=by
 induction h with
 | nil a=>simp
 | blank hc hb h ih=>omega
 | tok hc hb hr ht hk hn ha h ih=>simp only [length_cons];omega
theorem NO (s:ah):∀ (f f' a:Nat),a<=s.length->s.length < f+a->s.length < f'+a->skip s f a=skip s f' a:=by
 intro f
 induction f with
 | zero=>intro f' a h1 h2;omega
 | succ f ih =>
  intro f' a h1 h2 h3;obtain ⟨f',rfl⟩:∃ g,f'=g+1:=⟨f' - 1,by omega⟩;rw [skip,skip]
  cases hc:s[a]? with
  | none=>rfl
  | some c =>
   simp only;have aq:=(List.getElem?_eq_some_iff.1 hc).1;split
   ·exact ih f' (a+1) (by omega) (by omega) (by omega)
   ·split
    ·rename_i hb;have hb:=iZ hb;have hb:a+2<=s.length:=hb;have h4:=rN s s.length (a+2) hb;have h5:=qM s s.length (a+2) hb (by omega);split
     ·rfl
     ·rename_i hn
      have h6:bo s (eG s s.length (a+2)) [42,47]=true:=by
       cases oO:bo s (eG s s.length (a+2)) [42,47] with
       | true=>rfl
       | false=>exact absurd ⟨by omega,oO⟩ h5
      have h6:=iZ h6;have h6:eG s s.length (a+2)+2<=s.length:=h6;exact ih f' _ (by omega) (by omega) (by omega)
    ·rfl
theorem Tz.ic {s:ah} {a b:Nat} {ts:List Tok} (h:Tz s a ts b):∀ (f:Nat) (acc:List Tok),pS s (f+ts.length) (skip s (s.length+1) a).1 acc=pS s f (skip s (s.length+1) b).1 (acc++ts):=by
 induction h with
 | nil a=>intro f acc;simp
 | blank hc hb h ih =>
  rename_i a b c ts;intro f acc;have aq:=(List.getElem?_eq_some_iff.1 hc).1;rw [<-ih f acc]
  have:skip s (s.length+1) a=skip s (s.length+1) (a+1):=by
   rw [skip,hc];simp only;rw [if_pos hb];exact NO s _ _ _ (by omega) (by omega) (by omega)
  rw [this]
 | tok hc hb hr ht hk hn ha h ih =>
  rename_i a a' b c t ts;intro f acc
  have:skip s (s.length+1) a=(a,-1):=by
   rw [skip,hc];simp only;rw [if_neg (by rw [hb];decide),if_neg (by rw [hr];decide)]
  rw [this,length_cons,<-Nat.add_assoc,pS,hc];simp only [ht];rw [ih f (acc++[t]),append_assoc];rfl
theorem Tz.all {s:ah} {ts:List Tok} (h:Tz s 0 ts s.length):Go.Sp.ic s=some ts:=by
 have h1:=h.len;have h2:=h.ic (s.length+2 - ts.length) [];unfold Go.Sp.ic;rw [show s.length+2 - ts.length+ts.length=s.length+2 by omega] at h2;rw [h2]
 have h3:skip s (s.length+1) s.length=(s.length,-1):=by rw [skip];simp
 rw [h3];obtain ⟨g,hg⟩:∃ g,s.length+2 - ts.length=g+1:=⟨s.length+1 - ts.length,by omega⟩;rw [hg,pS];simp
theorem mb {s r:ah} {a:Nat} {c:UInt8} (h:s.drop a=c::r):s[a]?=some c/\s.drop (a+1)=r/\a < s.length:=by
 have h1:s[a]?=some c:=by
  have:=List.getElem?_drop (xs:=s) (i:=a) (j:=0);rw [h] at this;simpa using this.symm
 refine ⟨h1,?_,(List.getElem?_eq_some_iff.1 h1).1⟩;rw [<-List.tail_drop,h];rfl
theorem SC (s:ah) (p:UInt8->Bool):∀ (w post:ah) (f a:Nat),s.drop a=w++post->(∀ c∈w,p c=true)->run s p (f+w.length) a=run s p f (a+w.length):=by
 intro w
 induction w with
 | nil=>intro post f a h hp;rfl
 | cons c w ih =>
  intro post f a h hp;obtain ⟨h1,h2,_⟩:=mb h;rw [length_cons,<-Nat.add_assoc,run,h1];simp only;rw [if_pos (hp c (mem_cons_self)),ih post f (a+1) h2 (fun c hc=>hp c (mem_cons_of_mem _ hc))]
  congr 1;omega
theorem PN (s:ah) (p:UInt8->Bool) (post:ah) (f a:Nat) (h:s.drop a=post) (hp:∀ c,post.head?=some c->p c=false):run s p f a=a:=by
 cases f with
 | zero=>rfl
 | succ f =>
  rw [run]
  cases post with
  | nil =>
   have:s[a]?=none:=by
    rw [List.getElem?_eq_none_iff];have:=congrArg List.length h;simp at this;omega
   rw [this]
  | cons c r =>
   obtain ⟨h1,_,_⟩:=mb h;rw [h1];simp only;rw [if_neg (by rw [hp c rfl];decide)]
theorem take_drop {s w post:ah} {a:Nat} (h:s.drop a=w++post):(s.take (a+w.length)).drop a=w:=by
 rw [List.drop_take,h,Nat.add_sub_cancel_left,List.take_left]
theorem F4 {s w post:ah} {a:Nat} (h:s.drop a=w++post) (ha:a<=s.length):a+w.length+post.length=s.length:=by
 have:=congrArg List.length h;simp only [length_drop,length_append] at this;omega
theorem Qk {s w post:ah} {a:Nat} {c:UInt8} {r:ah} (ha:a<=s.length) (h:s.drop a=w++post) (hw:w=c::r) (hs:small c=true) (aO:∀ c∈w,dH c=true) (hp:∀ c,post.head?=some c->dH c=false) :
  iq s a c=(⟨if words.contains w=true then 3 else 2,0,w,a⟩,a+w.length):=by
 have hl:=F4 h ha
 have he:en s a=a+w.length:=by
  unfold en;obtain ⟨g,hg⟩:∃ g,s.length+1=g+w.length:=⟨s.length+1 - w.length,by omega⟩;rw [hg,SC s dH w post g a h aO];refine PN s dH post g _ ?_ hp;rw [<-List.drop_drop,h,drop_left]
 have hd:dM c=false:=by
  simp only [small,dM,Bool.and_eq_true] at hs |-;have h1:=of_decide_eq_true hs.1
  have:¬ ((c.toNat:Int)<=57):=by omega
  simp [this]
 unfold iq;rw [if_neg (by rw [hd];decide),if_pos hs];unfold eR;rw [he,take_drop h]
def fold (n:Int) (w:ah):Int:=w.foldl (fun n c=>if n<=2147483647 then n * 10+((c.toNat:Int) - 48) else n) n
theorem KE (s:ah):∀ (w post:ah) (f:Nat) (n:Int) (a:Nat),s.drop a=w++post->(∀ c∈w,dM c=true)->number s (f+w.length) n a=number s f (fold n w) (a+w.length):=by
 intro w
 induction w with
 | nil=>intro post f n a h hp;rfl
 | cons c w ih =>
  intro post f n a h hp;obtain ⟨h1,h2,_⟩:=mb h;rw [length_cons,<-Nat.add_assoc,number,h1];simp only;rw [if_pos (hp c (mem_cons_self)),ih post f _ (a+1) h2 (fun c hc=>hp c (mem_cons_of_mem _ hc))];rw [show a+1+w.length=a+(w.length+1) by omega];rfl
theorem HG (s:ah) (post:ah) (f:Nat) (n:Int) (a:Nat) (h:s.drop a=post) (hp:∀ c,post.head?=some c->dM c=false):number s f n a=(n,a):=by
 cases f with
 | zero=>rfl
 | succ f =>
  rw [number]
  cases post with
  | nil =>
   have:s[a]?=none:=by
    rw [List.getElem?_eq_none_iff];have:=congrArg List.length h;simp at this;omega
   rw [this]
  | cons c r =>
   obtain ⟨h1,_,_⟩:=mb h;rw [h1];simp only;rw [if_neg (by rw [hp c rfl];decide)]
theorem LW (k:Nat) (h:k<=9):dM (UInt8.ofNat (48+k))=true/\((UInt8.ofNat (48+k)).toNat:Int)=48+k:=by
 have:(UInt8.ofNat (48+k)).toNat=48+k:=by simp;omega
 refine ⟨?_,by rw [this];omega⟩;simp only [dM,Bool.and_eq_true,this];exact ⟨decide_eq_true (by omega),decide_eq_true (by omega)⟩
theorem H8 (n:Nat):(∀ c∈cm n,dM c=true)/\(n<=2147483647->fold 0 (cm n)=n)/\cm n≠[]:=by
 induction n using Nat.strongRecOn with
 | _ n ih =>
 unfold cm
 by_cases h:n < 10
 ·rw [dif_pos h];obtain ⟨h1,h2⟩:=LW n (by omega);refine ⟨fun c hc=>by rw [mem_singleton] at hc;subst hc;exact h1,fun _=>?_,by simp⟩;simp only [fold,foldl_cons,List.foldl_nil];rw [if_pos (by omega),h2];omega
 ·rw [dif_neg h];obtain ⟨h1,h2,h3⟩:=ih (n / 10) (by omega);obtain ⟨h4,h5⟩:=LW (n % 10) (by omega);refine ⟨fun c hc=>?_,fun hn=>?_,by simp⟩
  ·rcases List.mem_append.1 hc with hc | hc
   ·exact h1 c hc
   ·rw [mem_singleton] at hc;subst hc;exact h4
  ·have:=h2 (by omega);unfold fold at this |-;rw [List.foldl_append,this];simp only [foldl_cons,List.foldl_nil];rw [if_pos (by omega),h5];omega
theorem Sn {s post:ah} {n a:Nat} {c:UInt8} {r:ah} (ha:a<=s.length) (h:s.drop a=cm n++post) (hw:cm n=c::r) (hn:n<=2147483647) (hp:∀ c,post.head?=some c->dM c=false) :
  iq s a c=(⟨1,n,[],a⟩,a+(cm n).length):=by
 obtain ⟨h1,h2,h3⟩:=H8 n;have hl:=F4 h ha;have hd:dM c=true:=h1 c (by rw [hw];exact mem_cons_self);obtain ⟨g,hg⟩:∃ g,s.length+1=g+(cm n).length:=⟨s.length+1 - (cm n).length,by omega⟩;unfold iq;rw [if_pos hd,hg,KE s (cm n) post g 0 a h h1,h2 hn,HG s post g _ _ (by rw [<-List.drop_drop,h,drop_left]) hp]
theorem uv {s r t:ah} {a:Nat} (h:s.drop a=r) (ha:a<=s.length):bo s a t=t.isPrefixOf r:=by
 have hl:a+r.length=s.length:=by have:=congrArg List.length h;simp at this;omega
 unfold bo;rw [List.drop_take,h,Nat.add_sub_cancel_left]
 by_cases hp:t <+: r
 ·obtain ⟨z,rfl⟩:=hp;simp only [length_append] at hl
  have h2:t.isPrefixOf (t++z)=true:=by rw [List.isPrefixOf_iff_prefix];exact ⟨z,rfl⟩
  rw [h2,List.take_left];simp only [Bool.and_eq_true,beq_self_eq_true,and_true,decide_eq_true_eq];omega
 ·have h1:t.isPrefixOf r=false:=by
   cases hh:t.isPrefixOf r with
   | false=>rfl
   | true=>exact absurd (List.isPrefixOf_iff_prefix.1 hh) hp
  rw [h1]
  have h2:(r.take t.length==t)=false:=by
   rw [beq_eq_false_iff_ne];intro h3;exact hp ⟨r.drop t.length,by have:=take_append_drop t.length r;rw [h3] at this;exact this⟩
  rw [h2,Bool.and_false]
def CW:List UInt8:=[32,40,41,91,93,44,59,123,125,10]
def Sep (post:ah):Prop:=∀ c,post.head?=some c->c∈CW
theorem Sep.dH {post:ah} (h:Sep post):∀ c,post.head?=some c->dH c=false:=by
 intro c hc
 have:∀ c∈CW,Go.Sp.dH c=false:=by decide
 exact this c (h c hc)
theorem Sep.dM {post:ah} (h:Sep post):∀ c,post.head?=some c->dM c=false:=by
 intro c hc
 have:∀ c∈CW,Go.Sp.dM c=false:=by decide
 exact this c (h c hc)
theorem Su {x y z:ah} (h:x.length<=y.length):x.isPrefixOf (y++z)=x.isPrefixOf y:=by
 induction x generalizing y with
 | nil=>simp
 | cons a x ih =>
  cases y with
  | nil=>simp at h
  | cons b y=>simp only [cons_append,List.isPrefixOf];rw [ih (by simpa using h)]
theorem find_congr {α:Type} {p q:α->Bool}:∀ {l:List α},(∀ x∈l,p x=q x)->l.find? p=l.find? q
 | [],_=>rfl
 | a::l,h=>by rw [List.find?_cons,List.find?_cons,h a (mem_cons_self),find_congr (fun x hx=>h x (mem_cons_of_mem _ hx))]
theorem PV {s w post:ah} {a:Nat} {c:UInt8} {r:ah} (ha:a<=s.length) (h:s.drop a=w++post) (hw:w=c::r) (hm:w∈bB) (hp:Sep post) :
  iq s a c=(⟨3,0,w,a⟩,a+w.length)/\dw c=false/\bo s a [47,42]=false:=by
 have hd:∀ w∈bB,∀ c,w.head?=some c->dM c=false/\small c=false/\dw c=false:=by
  have:∀ w∈bB,(match w.head? with | some c=>!dM c&&!small c&&!dw c | none=>true)=true:=by decide
  intro w hw c hc;have:=this w hw;rw [hc] at this;simp only [Bool.and_eq_true,Bool.not_eq_true'] at this;exact ⟨this.1.1,this.1.2,this.2⟩
 obtain ⟨h1,h2,h3⟩:=hd w hm c (by rw [hw];rfl)
 have J7:∀ w∈bB,w.length<=2/\1<=w.length:=by decide
 have key:∀ w∈bB,bB.find? (fun x=>x.isPrefixOf w)=some w/\[47,42].isPrefixOf w=false:=by decide
 have Yo:∀ w∈bB,∀ c∈CW,bB.find? (fun x=>x.isPrefixOf (w++[c]))=some w/\[47,42].isPrefixOf (w++[c])=false:=by decide
 have hf:bB.find? (bo s a)=some w/\bo s a [47,42]=false:=by
  have e1:∀ x,bo s a x=x.isPrefixOf (w++post):=fun x=>uv h ha
  have e2:bB.find? (bo s a)=bB.find? (fun x=>x.isPrefixOf (w++post)):=find_congr fun x _=>e1 x
  rw [e2,e1]
  cases post with
  | nil=>rw [append_nil];exact key w hm
  | cons c' post =>
   have df:=hp c' rfl
   have e3:∀ x:ah,x.length<=2->x.isPrefixOf (w++c'::post)=x.isPrefixOf (w++[c']):=fun x hx=>by
    rw [show w++c'::post=(w++[c'])++post by simp];exact Su (by rw [length_append];have:=(J7 w hm).2;simp;omega)
   rw [find_congr fun x hx=>e3 x (J7 x hx).1,e3 _ (by decide)];exact Yo w hm c' df
 refine ⟨?_,h3,hf.2⟩;unfold iq;rw [if_neg (by rw [h1];decide),if_neg (by rw [h2];decide),hf.1]
theorem OW {s post:ah} {a:Nat} {c:UInt8} (ha:a<=s.length) (h:s.drop a=c::post) (hm:c∈[40,41,91,93,44,59,123,125]) :
  iq s a c=(⟨3,0,[c],a⟩,a+1)/\dw c=false/\bo s a [47,42]=false:=by
 have hd:∀ c∈([40,41,91,93,44,59,123,125]:List UInt8),dM c=false/\small c=false/\dw c=false/\c≠47:=by decide
 obtain ⟨h1,h2,h3,h4⟩:=hd c hm
 have e1:∀ x,bo s a x=x.isPrefixOf (c::post):=fun x=>uv h ha
 have e2:bB.find? (bo s a)=bB.find? (fun x=>x.isPrefixOf (c::post)):=find_congr fun x _=>e1 x
 have key:∀ post:ah,∀ c∈([40,41,91,93,44,59,123,125]:List UInt8),bB.find? (fun x=>x.isPrefixOf (c::post))=some [c]:=by
  intro post c hc;simp only [List.mem_cons,List.not_mem_nil,or_false] at hc
  rcases hc with rfl | rfl | rfl | rfl | rfl | rfl | rfl | rfl <;> rfl
 refine ⟨?_,h3,?_⟩
 ·unfold iq;rw [if_neg (by rw [h1];decide),if_neg (by rw [h2];decide),e2,key post c hm];rfl
 ·rw [e1];simp only [List.isPrefixOf]
  have:((47:UInt8)==c)=false:=by rw [beq_eq_false_iff_ne];exact fun h=>h4 h.symm
  rw [this,Bool.false_and]
end Go.Sp
namespace Go.Im
open Go.Xp Go.Sp
def ll:List ah:=[[105,110,116],[118,97,114],[102,117,110,99],[105,102],[101,108,115,101],[119,104,105,108,101],[114,101,116,117,114,110],[124,124],[38,38],[61,61],[33,61],[60,61],[62,61],[60,60],[62,62],[40],[41],[123],[125],[91],[93],[44],[59],[61],[60],[62],[43],[45],[42],[47],[37],[38],[124],[94],[33],[126]]
theorem yl:ll=words++bB:=by decide
def jw (s:ah):Bool:=ll.contains s
def jA:ah->Int->Int
 | [],n=>n
 | c::r,n=>if n<=2147483647 then jA r (10 * n+((c.toNat:Int) - 48)) else n
def cl (s:ah) (a b:Nat):ah:=(s.take b).drop a
def fX (s:ah) (a:Nat) (k:Nat):Bool:=decide (a+k<=s.length)&&(match s[a]? with | some c=>!(small c) | none=>false)&&jw (cl s a (a+k))
def fC (s:ah) (a:Nat):ah:=if fX s a 2=true then cl s a (a+2) else if fX s a 1=true then cl s a (a+1) else []
def jr (s:ah) (a:Nat):Nat:=run s dM (s.length+1) a
def pQ:Tok:=⟨0,0,[],0⟩
def jR (s:ah) (a:Nat) (c:UInt8):Tok × Nat × Int :=
 if dM c=true then
  if jA (cl s a (jr s a)) 0 > 2147483647 then (pQ,a,3) else (⟨1,jA (cl s a (jr s a)) 0,[],a⟩,jr s a,0)
 else if small c=true then (⟨if jw (eR s a)=true then 3 else 2,0,eR s a,a⟩,en s a,0)
 else if fC s a=[] then (pQ,a,2)
 else (⟨3,0,fC s a,a⟩,a+(fC s a).length,0)
def pE:ah->Option Nat
 | []=>none
 | b::l=>if List.isPrefixOf [42,47] (b::l) then some 0 else match pE l with | none=>none | some n=>some (n+1)
def mn (s:ah):Nat->Nat->List Tok->Option (List Tok × Int × Int)
 | 0,_,_=>none
 | f+1,a,acc=>match s[a]? with
  | none=>some (acc,0,0)
  | some c =>
   if dw c=true then mn s f (a+1) acc
   else if bo s a [47,42]=true then
    match pE (s.drop (a+2)) with
    | none=>some ([],4,a)
    | some n=>mn s f (a+(n+4)) acc
   else if (jR s a c).2.2≠0 then some ([],(jR s a c).2.2,a)
   else mn s f (jR s a c).2.1 (acc++[(jR s a c).1])
structure Bc (t:Tok):Prop where
 num:t.kind=1->0<=t.n/\t.n<=2147483647/\t.s=[]
 name:t.kind=2->word t.s=true/\jw t.s=false
 sign:t.kind=3->jw t.s=true
 kinds:t.kind=1\/t.kind=2\/t.kind=3
theorem ky {s:ah} {a b:Nat} (h:b<=s.length):(cl s a b).length=b - a:=by
 unfold cl;rw [length_drop,length_take];omega
theorem oL {s:ah} {a b:Nat} {c:UInt8} (h:s[a]?=some c) (hb:a < b) (hl:b<=s.length):cl s a b=c::cl s (a+1) b:=by
 unfold cl;have aq:=(List.getElem?_eq_some_iff.1 h).1
 have:(s.take b)[a]?=some c:=by rw [getElem?_take,if_pos hb];exact h
 have h2:=(List.getElem?_eq_some_iff.1 this);rw [List.drop_eq_getElem_cons h2.1,h2.2]
theorem CU (s:ah) (p:UInt8->Bool):∀ (f a:Nat),a<=s.length->∀ c∈cl s a (run s p f a),p c=true:=by
 intro f
 induction f with
 | zero =>
  intro a ha c hc;rw [Go.Sp.run] at hc
  have:(cl s a a).length=0:=by rw [ky ha];omega
  rw [eq_nil_of_length_eq_zero this] at hc;cases hc
 | succ f ih =>
  intro a ha c hc;rw [Go.Sp.run] at hc
  have FG:∀ x:ah,x=cl s a a->c∈x->p c=true:=fun x hx hm=>by
   have:(cl s a a).length=0:=by rw [ky ha];omega
   rw [hx,eq_nil_of_length_eq_zero this] at hm;cases hm
  cases hq:s[a]? with
  | none=>rw [hq] at hc;exact FG _ rfl hc
  | some d =>
   rw [hq] at hc;simp only at hc;have aq:=(List.getElem?_eq_some_iff.1 hq).1
   by_cases hp:p d=true
   ·rw [if_pos hp] at hc
    have kX:a+1<=Go.Sp.run s p f (a+1)/\Go.Sp.run s p f (a+1)<=s.length:=by
     have:∀ (f a:Nat),a<=s.length->a<=Go.Sp.run s p f a/\Go.Sp.run s p f a<=s.length:=by
      intro f
      induction f with
      | zero=>intro a h;exact ⟨Nat.le_refl _,h⟩
      | succ f ih =>
       intro a h;rw [Go.Sp.run]
       cases hq:s[a]? with
       | none=>exact ⟨Nat.le_refl _,h⟩
       | some d =>
        simp only;split
        ·have:=ih (a+1) (List.getElem?_eq_some_iff.1 hq).1;omega
        ·exact ⟨Nat.le_refl _,h⟩
     exact this f (a+1) aq
    rw [oL hq (by omega) kX.2] at hc
    rcases List.mem_cons.1 hc with rfl | hc
    ·exact hp
    ·exact ih (a+1) aq c hc
   ·rw [if_neg hp] at hc;exact FG _ rfl hc
theorem I7:∀ (w:ah) (n:Int),0<=n->(∀ c∈w,dM c=true)->0<=jA w n
 | [],n,h,_=>h
 | c::r,n,h,hd=>by
  rw [jA];have hc:=hd c (mem_cons_self);simp only [dM,Bool.and_eq_true,decide_eq_true_eq] at hc;split
  ·exact I7 r _ (by omega) (fun c hc=>hd c (mem_cons_of_mem _ hc))
  ·exact h
theorem Ph {x:ah} (h:jw x=true):x≠[]:=by
 intro h0;subst h0;revert h;decide
theorem Js {s:ah} {a:Nat} {c:UInt8} (hc:s[a]?=some c) (h0:(jR s a c).2.2=0):Bc (jR s a c).1/\(jR s a c).1.at_=a/\a < (jR s a c).2.1/\(jR s a c).2.1<=s.length:=by
 have aq:=(List.getElem?_eq_some_iff.1 hc).1;unfold jR at h0 |-
 by_cases hd:dM c=true
 ·rw [if_pos hd] at h0 |-
  by_cases hn:jA (cl s a (jr s a)) 0 > 2147483647
  ·rw [if_pos hn] at h0;cases h0
  ·rw [if_neg hn];obtain ⟨e1,e2,e3⟩:=o0 s dM (s.length+1) a (by omega) (by omega)
   have zz:a < jr s a:=by
    rcases Nat.lt_or_ge a (jr s a) with h | h
    ·exact h
    ·have he:Go.Sp.run s dM (s.length+1) a=a:=by unfold jr at h;omega
     have:=e1 c (by rw [he];exact hc);rw [hd] at this;cases this
   refine ⟨⟨fun _=>⟨I7 _ _ (by decide) (CU s dM _ a (by omega)),by simpa using hn,rfl⟩,fun h=>by simp at h,fun h=>by simp at h,.inl rfl⟩,rfl,zz,e3⟩
 ·rw [if_neg hd] at h0 |-
  by_cases hs:small c=true
  ·rw [if_pos hs];obtain ⟨e1,e2,e3⟩:=o0 s dH (s.length+1) a (by omega) (by omega)
   have rf:dH c=true:=by simp [dH,hs]
   have zz:a < en s a:=by
    rcases Nat.lt_or_ge a (en s a) with h | h
    ·exact h
    ·have he:Go.Sp.run s dH (s.length+1) a=a:=by unfold en at h;omega
     have:=e1 c (by rw [he];exact hc);rw [rf] at this;cases this
   have hw:word (eR s a)=true:=by
    have h1:eR s a=c::cl s (a+1) (en s a):=oL hc zz e3;have h2:=CU s dH (s.length+1) a (by omega);unfold word;have h3:(eR s a).all dH=true:=List.all_eq_true.2 h2;rw [h3,h1];simp [hs]
   refine ⟨⟨fun h=>?_,fun h=>⟨hw,?_⟩,fun h=>?_,?_⟩,rfl,zz,e3⟩
   ·simp only at h;split at h <;> cases h
   ·simp only at h;split at h
    ·cases h
    ·rename_i hh;simpa using hh
   ·simp only at h;split at h
    ·assumption
    ·cases h
   ·simp only;split
    ·exact .inr (.inr rfl)
    ·exact .inr (.inl rfl)
  ·rw [if_neg hs] at h0 |-
   by_cases hg:fC s a=[]
   ·rw [if_pos hg] at h0;cases h0
   ·rw [if_neg hg]
    have key:jw (fC s a)=true/\a+(fC s a).length<=s.length:=by
     unfold fC at hg |-
     have aux:∀ k,fX s a k=true->jw (cl s a (a+k))=true/\a+(cl s a (a+k)).length<=s.length:=fun k h=>by
      simp only [fX,Bool.and_eq_true,decide_eq_true_eq] at h;refine ⟨h.2,?_⟩;rw [ky h.1.1];have:=h.1.1;omega
     split
     ·exact aux 2 (by assumption)
     ·rename_i h2;rw [if_neg h2] at hg;split
      ·exact aux 1 (by assumption)
      ·rename_i h1;rw [if_neg h1] at hg;exact absurd rfl hg
    have hl:=List.length_pos_iff.2 (Ph key.1);exact ⟨⟨fun h=>by simp at h,fun h=>by simp at h,fun _=>key.1,.inr (.inr rfl)⟩,rfl,by simp only;omega,key.2⟩
theorem CE:∀ {l:ah} {n:Nat},pE l=some n->n+2<=l.length
 | [],n,h=>by cases h
 | b::l,n,h=>by
  rw [pE] at h;split at h
  ·rename_i hp;cases h
   cases l with
   | nil=>simp [List.isPrefixOf] at hp
   | cons d l=>simp
  ·cases hq:pE l with
   | none=>rw [hq] at h;cases h
   | some m=>rw [hq] at h;cases h;have:=CE hq;simp only [length_cons];omega
theorem rn (s:ah):∀ (f a:Nat) (acc:List Tok),a<=s.length->s.length < f+a->(∀ t∈acc,Bc t)->(acc.Pairwise fun x y=>x.at_ < y.at_)->(∀ t∈acc,t.at_ < (a:Int))->acc.length<=a ->
  ∃ ts c z,mn s f a acc=some (ts,c,z)/\(∀ t∈ts,Bc t)/\(ts.Pairwise fun x y=>x.at_ < y.at_)/\ts.length<=s.length
 | 0,a,acc,h1,h2,_,_,_,_=>by omega
 | f+1,a,acc,h1,h2,h3,h4,h5,h6=>by
  rw [mn]
  cases hc:s[a]? with
  | none=>exact ⟨acc,0,0,rfl,h3,h4,by omega⟩
  | some c =>
   simp only;have aq:=(List.getElem?_eq_some_iff.1 hc).1;split
   ·exact rn s f (a+1) acc (by omega) (by omega) h3 h4 (fun t ht=>by have:=h5 t ht;omega) (by omega)
   ·split
    ·rename_i hb;have mu:=iZ hb;simp only [length_cons,length_nil] at mu
     cases hi:pE (s.drop (a+2)) with
     | none=>exact ⟨[],4,a,rfl,fun t h=>by simp at h,.nil,Nat.zero_le _⟩
     | some n =>
      have:=CE hi;rw [length_drop] at this;exact rn s f (a+(n+4)) acc (by omega) (by omega) h3 h4 (fun t ht=>by have:=h5 t ht;omega) (by omega)
    ·split
     ·exact ⟨[],_,a,rfl,fun t h=>by simp at h,.nil,Nat.zero_le _⟩
     ·rename_i h0;obtain ⟨k1,k2,k3,k4⟩:=Js hc (by simpa using h0);refine rn s f _ _ k4 (by omega) (fun t ht=>?_) ?_ (fun t ht=>?_) (by rw [length_append];simp only [length_cons,length_nil];omega)
      ·rcases List.mem_append.1 ht with h | h
       ·exact h3 t h
       ·rw [mem_singleton] at h;subst h;exact k1
      ·rw [List.pairwise_append];refine ⟨h4,List.pairwise_singleton _ _,fun x hx y hy=>?_⟩;rw [mem_singleton] at hy;subst hy;rw [k2];exact h5 x hx
      ·rcases List.mem_append.1 ht with h | h
       ·have:=h5 t h;omega
       ·rw [mem_singleton] at h;subst h;rw [k2];omega
theorem zL (s:ah):∀ (f:Nat) (n:Int) (a:Nat),a<=s.length->s.length < f+a->jA (cl s a (number s f n a).2) n=(number s f n a).1
 | 0,n,a,h1,h2=>by omega
 | f+1,n,a,h1,h2=>by
  have FG:cl s a a=[]:=eq_nil_of_length_eq_zero (by rw [ky h1];omega);rw [number]
  cases hc:s[a]? with
  | none=>simp only;rw [FG,jA]
  | some c =>
   simp only;have aq:=(List.getElem?_eq_some_iff.1 hc).1
   by_cases hd:dM c=true
   ·rw [if_pos hd];obtain ⟨e1,e2,e3⟩:=wC s f (if n<=2147483647 then n * 10+((c.toNat:Int) - 48) else n) (a+1) (by omega) (by omega);rw [oL hc (by omega) e3,jA];have ih:=zL s f (if n<=2147483647 then n * 10+((c.toNat:Int) - 48) else n) (a+1) (by omega) (by omega)
    by_cases hn:n<=2147483647
    ·rw [if_pos hn] at ih |-;rw [if_pos hn,Int.mul_comm 10 n];exact ih
    ·rw [if_neg hn] at ih |-;rw [if_neg hn];rw [<-ih]
     cases hw:cl s (a+1) (number s f n (a+1)).2 with
     | nil=>rw [jA]
     | cons d r=>rw [jA,if_neg hn]
   ·rw [if_neg hd];simp only;rw [FG,jA]
theorem BS (s:ah):∀ (f:Nat) (n:Int) (a:Nat),(number s f n a).2=Go.Sp.run s dM f a
 | 0,n,a=>rfl
 | f+1,n,a=>by
  rw [number,Go.Sp.run]
  cases hc:s[a]? with
  | none=>rfl
  | some c =>
   simp only;split
   ·exact BS s f _ (a+1)
   ·rfl
theorem nk {s x:ah} {a:Nat}:bo s a x=(decide (a+x.length<=s.length)&&(cl s a (a+x.length)==x)):=rfl
theorem KT {s:ah} {a:Nat} {c:UInt8} (hc:s[a]?=some c) (hs:small c=false):fC s a=(match bB.find? (bo s a) with | some x=>x | none=>[]):=by
 have aq:=(List.getElem?_eq_some_iff.1 hc).1
 have h2:∀ x∈bB,x.length=1\/x.length=2:=by decide
 have BD:bB=bB.take 8++bB.drop 8:=(take_append_drop 8 bB).symm
 have jh:∀ x∈bB.take 8,x.length=2:=by decide
 have eI:∀ x∈bB.drop 8,x.length=1:=by decide
 have hw:∀ x∈words,∃ d r,x=d::r/\small d=true:=by
  intro x hx
  have:∀ x∈words,(match x with | d::_=>small d | []=>false)=true:=by decide
  have:=this x hx
  cases x with
  | nil=>cases this
  | cons d r=>exact ⟨d,r,rfl,this⟩
 have O3:∀ k,1<=k->a+k<=s.length->cl s a (a+k)=c::cl s (a+1) (a+k):=fun k h1 h2=>oL hc (by omega) h2
 have dE:∀ k,1<=k->a+k<=s.length->(jw (cl s a (a+k))=true↔cl s a (a+k)∈bB):=fun k h1 h2=>by
  unfold jw;rw [yl,contains_iff_mem,List.mem_append];refine ⟨fun h=>h.resolve_left fun hm=>?_,.inr⟩;obtain ⟨d,r,e1,e2⟩:=hw _ hm;rw [O3 k h1 h2] at e1
  cases e1;rw [hs] at e2;cases e2
 have Kc:∀ k,1<=k->(fX s a k=true↔a+k<=s.length/\cl s a (a+k)∈bB):=fun k h1=>by
  unfold fX;rw [hc];simp only [hs,Bool.not_false,Bool.and_true,Bool.and_eq_true,decide_eq_true_eq];exact ⟨fun ⟨p,q⟩=>⟨p,(dE k h1 p).1 q⟩,fun ⟨p,q⟩=>⟨p,(dE k h1 p).2 q⟩⟩
 have CD:∀ k,1<=k->k<=2->a+k<=s.length->cl s a (a+k)∈bB->(cl s a (a+k)).length=k:=fun k _ _ h _=>by rw [ky h];omega
 unfold fC
 by_cases t2:fX s a 2=true
 ·rw [if_pos t2];obtain ⟨p,q⟩:=(Kc 2 (by decide)).1 t2
  have hq:cl s a (a+2)∈bB.take 8:=by
   rw [BD] at q
   rcases List.mem_append.1 q with h | h
   ·exact h
   ·have:=eI _ h;rw [ky p] at this;omega
  rw [BD,List.find?_append]
  have:(bB.take 8).find? (bo s a)=some (cl s a (a+2)):=by
   cases hf:(bB.take 8).find? (bo s a) with
   | none =>
    rw [find?_eq_none] at hf;have h1:=hf _ hq;rw [nk,ky p,show a+(a+2 - a)=a+2 by omega] at h1;simp [p] at h1
   | some x =>
    have h1:=List.find?_some hf;have h3:=jh x (List.mem_of_find?_eq_some hf);rw [nk,h3] at h1;simp only [Bool.and_eq_true,beq_iff_eq] at h1;rw [h1.2]
  rw [this];rfl
 ·rw [if_neg t2]
  have X8:(bB.take 8).find? (bo s a)=none:=by
   rw [find?_eq_none];intro x hx hb;rw [nk,jh x hx] at hb;simp only [Bool.and_eq_true,beq_iff_eq,decide_eq_true_eq] at hb;exact t2 ((Kc 2 (by decide)).2 ⟨hb.1,by rw [hb.2];exact List.mem_of_mem_take hx⟩)
  rw [BD,List.find?_append,X8]
  by_cases t1:fX s a 1=true
  ·rw [if_pos t1];obtain ⟨p,q⟩:=(Kc 1 (by decide)).1 t1
   have hq:cl s a (a+1)∈bB.drop 8:=by
    rw [BD] at q
    rcases List.mem_append.1 q with h | h
    ·have:=jh _ h;rw [ky p] at this;omega
    ·exact h
   have:(bB.drop 8).find? (bo s a)=some (cl s a (a+1)):=by
    cases hf:(bB.drop 8).find? (bo s a) with
    | none =>
     rw [find?_eq_none] at hf;have h1:=hf _ hq;rw [nk,ky p,show a+(a+1 - a)=a+1 by omega] at h1;simp [p] at h1
    | some x =>
     have h1:=List.find?_some hf;have h3:=eI x (List.mem_of_find?_eq_some hf);rw [nk,h3] at h1;simp only [Bool.and_eq_true,beq_iff_eq] at h1;rw [h1.2]
   rw [this];rfl
  ·rw [if_neg t1]
   have:(bB.drop 8).find? (bo s a)=none:=by
    rw [find?_eq_none];intro x hx hb;rw [nk,eI x hx] at hb;simp only [Bool.and_eq_true,beq_iff_eq,decide_eq_true_eq] at hb;exact t1 ((Kc 1 (by decide)).2 ⟨hb.1,by rw [hb.2];exact List.mem_of_mem_drop hx⟩)
   rw [this];rfl
theorem SX {s:ah} {a a':Nat} {c:UInt8} {t:Tok} (hc:s[a]?=some c) (h:iq s a c=(t,a')) (hk:t.kind=1\/t.kind=2\/t.kind=3) (hn:t.n<=2147483647):jR s a c=(t,a',0):=by
 have aq:=(List.getElem?_eq_some_iff.1 hc).1;unfold iq at h;unfold jR
 by_cases hd:dM c=true
 ·rw [if_pos hd] at h |-;cases h;have e1:jr s a=(number s (s.length+1) 0 a).2:=(BS s _ 0 a).symm;rw [e1,zL s _ 0 a (by omega) (by omega),if_neg (by simpa using hn)]
 ·rw [if_neg hd] at h |-
  by_cases hs:small c=true
  ·rw [if_pos hs] at h |-;cases h
   have FT:∃ r,eR s a=c::r\/eR s a=[]:=by
    cases hw:eR s a with
    | nil=>exact ⟨[],.inr rfl⟩
    | cons d r =>
     obtain ⟨e1,e2,e3⟩:=o0 s dH (s.length+1) a (by omega) (by omega)
     have rf:dH c=true:=by simp [dH,hs]
     have zz:a < en s a:=by
      rcases Nat.lt_or_ge a (en s a) with h | h
      ·exact h
      ·have he:Go.Sp.run s dH (s.length+1) a=a:=by unfold en at h;omega
       have:=e1 c (by rw [he];exact hc);rw [rf] at this;cases this
     have h1:eR s a=c::cl s (a+1) (en s a):=oL hc zz e3;rw [hw] at h1;cases h1;exact ⟨_,.inl rfl⟩
   have dE:jw (eR s a)=words.contains (eR s a):=by
    unfold jw;rw [yl]
    have xO:∀ x∈bB,(match x with | d::_=>small d | []=>true)=false:=by decide
    obtain ⟨r,h1⟩:=FT
    have:bB.contains (eR s a)=false:=by
     cases gH:bB.contains (eR s a) with
     | false=>rfl
     | true =>
      have:=xO _ (List.contains_iff_mem.1 gH)
      rcases h1 with h1 | h1 <;> rw [h1] at this <;> simp only at this
      ·rw [hs] at this;cases this
      ·cases this
    rw [Bool.eq_iff_iff,contains_iff_mem,List.mem_append,<-contains_iff_mem (as:=bB),this];simp
   rw [dE]
  ·rw [if_neg hs] at h |-;rw [KT hc (by simpa using hs)]
   cases hf:bB.find? (bo s a) with
   | none=>rw [hf] at h;cases h;simp at hk
   | some x =>
    rw [hf] at h;cases h;simp only;have hx:=List.mem_of_find?_eq_some hf
    have bK:x≠[]:=by
     intro h0;subst h0;revert hx;decide
    rw [if_neg bK]
theorem Sh {s:ah} {a b:Nat} {ts:List Tok} (h:Tz s a ts b):b=s.length->∀ (f:Nat) (acc:List Tok),s.length < f+a->mn s f a acc=some (acc++ts,0,0):=by
 induction h with
 | nil a =>
  intro hb f acc hf
  cases f with
  | zero=>omega
  | succ f =>
   rw [mn];have:s[a]?=none:=List.getElem?_eq_none_iff.2 (by omega);rw [this];simp
 | blank hc mu h ih =>
  intro hb f acc hf
  cases f with
  | zero=>have:=(List.getElem?_eq_some_iff.1 hc).1;omega
  | succ f =>
   rw [mn,hc];simp only;rw [if_pos mu];exact ih hb f acc (by omega)
 | tok hc mu hr ht hk hn ha h ih =>
  intro hb f acc hf
  cases f with
  | zero=>have:=(List.getElem?_eq_some_iff.1 hc).1;omega
  | succ f =>
   rw [mn,hc];simp only;rw [if_neg (by rw [mu];decide),if_neg (by rw [hr];decide),SX hc ht hk hn];simp only [ne_eq,not_true_eq_false,if_false];rw [ih hb f _ (by omega)];simp
end Go.Im
namespace Go.Im
open Go.Xp Go.Sp
abbrev qW (ts:List Tok):Prop:=∀ t∈ts,Bc t
def EF (t:T):Prop:=∃ a:E,a.ok=true/\er t=a.tree
def Lj (l:List T):Prop:=∃ es:List E,E.cD es=true/\aI l=E.trees es
def Sf (ts r:List Tok) (n:Nat):Prop:=∃ pre,ts=pre++r/\n<=pre.length
theorem Sf.nil (ts:List Tok):Sf ts ts 0:=⟨[],rfl,Nat.zero_le _⟩
theorem Sf.one (t:Tok) (ts:List Tok):Sf (t::ts) ts 1:=⟨[t],rfl,Nat.le_refl _⟩
theorem Sf.trans {a b c:List Tok} {n m:Nat} (h:Sf a b n) (k:Sf b c m):Sf a c (n+m):=by
 obtain ⟨p,rfl,h⟩:=h;obtain ⟨q,rfl,k⟩:=k;exact ⟨p++q,by simp,by rw [length_append];omega⟩
theorem Sf.le {a b:List Tok} {n m:Nat} (h:Sf a b n) (k:m<=n):Sf a b m:=by
 obtain ⟨p,rfl,h⟩:=h;exact ⟨p,rfl,by omega⟩
theorem Sf.ok {a b:List Tok} {n:Nat} (h:Sf a b n) (k:qW a):qW b:=by
 obtain ⟨p,rfl,h⟩:=h
 exact fun t ht=>k t (List.mem_append_right _ ht)
theorem Sf.aE {e:Int} {s:ah} {ts r:List Tok} (hs:s≠[]) (h:aE e s ts=.ok r):Sf ts r 1:=by
 obtain ⟨u,rfl,_⟩:=wy hs h;exact .one u r
theorem Sf.sign {s:ah} {ts:List Tok} (hs:s≠[]) (h:sign ts 0=s):Sf ts ts.tail 1:=by
 obtain ⟨u,h1,_⟩:=tq hs h;rw [h1];exact .one u _
theorem PT {s:ah} (h:jw s=false):words.contains s=false:=by
 unfold jw at h;rw [yl] at h
 cases hc:words.contains s with
 | false=>rfl
 | true =>
  rw [contains_iff_mem] at hc
  have:(words++bB).contains s=true:=by rw [contains_iff_mem];exact List.mem_append_left _ hc
  rw [h] at this;cases this
theorem Wh {t:Tok} (h:Bc t) (hk:t.kind=2) (hl:t.s.length<=12):bf t.s=true:=by
 obtain ⟨h1,h2⟩:=h.name hk;unfold bf;rw [h1,PT h2];simpa using hl
theorem Sf.name {e:Int} {s:ah} {ts r:List Tok} (h:name e ts=.ok (s,r)) (ho:qW ts):Sf ts r 1/\bf s=true:=by
 obtain ⟨u,rfl,h1,rfl,h3⟩:=Gc h;exact ⟨.one u r,Wh (ho u mem_cons_self) h1 h3⟩
theorem RB {s:ah} {k:Nat} (h:s∈levels.getD k []):ek s=true:=by
 unfold ek;rw [any_eq_true];rw [List.getD_eq_getElem?_getD] at h
 cases hk:levels[k]? with
 | none=>rw [hk] at h;simp at h
 | some l =>
  rw [hk] at h;exact ⟨l,mem_of_getElem? hk,by rw [contains_iff_mem];exact h⟩
theorem iI (k a:Int) (s:ah) (l:List T):aK (one k a s l)=ay l+1:=by unfold one;rw [aK]
theorem Lj.snoc {l:List T} {t:T} (h:Lj l) (k:EF t):Lj (l++[t]):=by
 obtain ⟨es,h1,h2⟩:=h;obtain ⟨a,h3,h4⟩:=k
 have key:∀ es:List E,E.cD es=true->E.cD (es++[a])=true/\E.trees (es++[a])=E.trees es++[a.tree]:=by
  intro es
  induction es with
  | nil=>intro _;simp [E.cD,E.trees,h3]
  | cons b es ih =>
   intro h;simp only [E.cD,Bool.and_eq_true] at h;obtain ⟨k1,k2⟩:=ih h.2;simp only [cons_append,E.cD,E.trees,k1,k2,h.1];simp
 obtain ⟨k1,k2⟩:=key es h1;exact ⟨es++[a],k1,by rw [Ih,h2,k2,aI,aI,h4]⟩
def vj:nU->Nat
 | .loop _ _ out=>aK out
 | _=>0
def jok:nU->Prop
 | .loop _ _ out=>EF out
 | _=>True
theorem Sw (e:Int):∀ f,(∀ j ts t r,qW ts->jok j->rd e f j ts=.ok (t,r)->EF t/\∃ n,Sf ts r n/\aK t<=n+vj j) /\
  (∀ d acc ts l r,qW ts->Lj acc->rd.args e f d acc ts=.ok (l,r)->Lj l/\∃ n,Sf ts r n/\ay l+1<=n+ay acc):=by
 intro f
 induction f with
 | zero=>exact ⟨fun j ts t r _ _ h=>by simp [rd] at h,fun d acc ts l r _ _ h=>by simp [rd.args] at h⟩
 | succ f ih =>
  obtain ⟨ih,xW⟩:=ih;refine ⟨fun j ts t r ho hj h=>?_,fun d acc ts l r ho hj h=>?_⟩
  ·cases j with
   | expr d =>
    rw [rd] at h;split at h
    ·cases h
    ·exact ih (.level 0 (d+1)) ts t r ho trivial h
   | level k d =>
    rw [rd] at h;split at h
    ·exact ih (.operand d) ts t r ho trivial h
    ·split at h
     ·cases h
     ·rename_i out il hx;obtain ⟨h1,n,h2,h3⟩:=ih (.level (k+1) d) ts out il ho trivial hx;obtain ⟨k1,m,k2,k3⟩:=ih (.loop k d out) il t r (h2.ok ho) h1 h;exact ⟨k1,n+m,h2.trans k2,by simp only [vj] at *;omega⟩
   | loop k d out =>
    cases ts with
    | nil=>rw [rd] at h;cases h;exact ⟨hj,0,.nil _,by simp only [vj];omega⟩
    | cons t0 r0 =>
     rw [rd] at h;split at h
     ·rename_i hc;split at h
      ·cases h
      ·rename_i b r1 hx;obtain ⟨⟨b',h0,h1⟩,n,h2,h3⟩:=ih (.level (k+1) d) r0 b r1 (fun t ht=>ho t (mem_cons_of_mem _ ht)) trivial hx;obtain ⟨o',h4,h5⟩:=hj;have h6:=(Sf.one t0 r0).trans h2;obtain ⟨k1,m,k2,k3⟩:=ih (.loop k d (one 6 t0.at_ t0.s [out,b])) r1 t r (h6.ok ho) ⟨.bin t0.s o' b',by simp only [E.ok,RB hc.2,h4,h0];rfl,by rw [dy,aI,aI,aI,h5,h1,E.tree]⟩ h;refine ⟨k1,_,h6.trans k2,?_⟩;simp only [vj,iI,ay] at *;omega
     ·cases h;exact ⟨hj,0,.nil _,by simp only [vj];omega⟩
   | operand d =>
    cases ts with
    | nil =>
     rw [rd] at h;split at h <;> cases h
    | cons t0 r0 =>
     rw [rd] at h;split at h
     ·cases h
     ·have W2:qW r0:=fun t ht=>ho t (mem_cons_of_mem _ ht)
      have vh:=Sf.one t0 r0;split at h
      ·split at h
       ·rename_i hu;split at h
        ·cases h
        ·rename_i a r1 hx;cases h;obtain ⟨⟨a',h0,h1⟩,n,h2,h3⟩:=ih (.operand (d+1)) r0 a r W2 trivial hx;refine ⟨⟨.un t0.s a',?_,by rw [dy,aI,aI,h1,E.tree]⟩,_,vh.trans h2,?_⟩
         ·simp only [E.ok,h0]
          rcases hu with hu | hu | hu <;> simp [hu]
         ·simp only [vj,iI,ay] at *;omega
       ·split at h
        ·split at h
         ·cases h
         ·rename_i a r1 hx;split at h
          ·cases h
          ·rename_i r2 hm;cases h;obtain ⟨h1,n,h2,h3⟩:=ih (.expr (d+1)) r0 t r1 W2 trivial hx;exact ⟨h1,_,(vh.trans h2).trans (Sf.aE (by decide) hm),by simp only [vj] at *;omega⟩
        ·cases h
      ·split at h
       ·rename_i hk;cases h;obtain ⟨k1,k2,k3⟩:=(ho t0 mem_cons_self).num hk;exact ⟨⟨.num t0.n,by simp only [E.ok];simp [k1,k2],by rw [er,aI,E.tree]⟩,1,vh,by simp only [vj,aK,ay];omega⟩
       ·split at h
        ·cases h
        ·rename_i s r1 dX;obtain ⟨k1,k2⟩:=Sf.name dX ho;split at h
         ·rename_i hb;have k3:=k1.trans (Sf.sign (by decide) hb);split at h
          ·cases h
          ·rename_i a r2 hx;split at h
           ·cases h
           ·rename_i r3 hm;cases h;obtain ⟨⟨a',h0,h1⟩,n,h2,h3⟩:=ih (.expr (d+1)) _ a r2 (k3.ok ho) trivial hx;refine ⟨⟨.at_ s a',by simp only [E.ok,k2,h0];rfl,by rw [dy,aI,aI,h1,E.tree]⟩,_,(k3.trans h2).trans (Sf.aE (by decide) hm),?_⟩;simp only [vj,iI,ay] at *;omega
         ·split at h
          ·rename_i hb;have k3:=k1.trans (Sf.sign (by decide) hb);split at h
           ·cases h
           ·rename_i l r2 hx;cases h;obtain ⟨⟨es,h0,h1⟩,n,h2,h3⟩:=xW _ _ _ l r (k3.ok ho) ⟨[],rfl,rfl⟩ hx;refine ⟨⟨.call s es,by simp only [E.ok,k2,h0];rfl,by rw [dy,h1,E.tree]⟩,_,k3.trans h2,?_⟩;simp only [vj,iI,ay] at *;omega
          ·cases h;exact ⟨⟨.name s,by simp only [E.ok,k2],by rw [dy,aI,E.tree]⟩,1,k1,by simp only [vj,iI,ay];omega⟩
  ·rw [rd.args] at h;split at h
   ·rename_i hc;cases h;exact ⟨hj,1,Sf.sign (by decide) hc,by omega⟩
   ·split at h
    ·cases h
    ·rename_i yr hx
     have h0:Sf ts yr 0:=by
      split at hx
      ·cases hx;exact .nil _
      ·exact (Sf.aE (by decide) hx).le (Nat.zero_le _)
     split at h
     ·cases h
     ·rename_i a vL hy;obtain ⟨h1,n,h2,h3⟩:=ih (.expr d) yr a vL (h0.ok ho) trivial hy;have h4:=h0.trans h2;obtain ⟨k1,m,k2,k3⟩:=xW _ (acc++[a]) vL l r (h4.ok ho) (hj.snoc h1) h;refine ⟨k1,_,h4.trans k2,?_⟩;simp only [vj,mf,ay] at *;omega
theorem xv {e:Int} {d:Nat} {ts r:List Tok} {t:T} (ho:qW ts) (h:expr e d ts=.ok (t,r)):EF t/\Sf ts r (aK t):=by
 obtain ⟨h1,n,h2,h3⟩:=(Sw e _).1 (.expr d) ts t r ho trivial h;exact ⟨h1,h2.le (by simpa [vj] using h3)⟩
theorem wg {e:Int} {d:Nat} {a b:ah} {ts r:List Tok} {t:T} (ha:a≠[]) (hb:b≠[]) (ho:qW ts) (h:inner e d a b ts=.ok (t,r)):EF t/\Sf ts r (aK t+2):=by
 unfold inner at h;split at h
 ·cases h
 ·rename_i yr h1;have k1:=Sf.aE ha h1;split at h
  ·cases h
  ·rename_i t' vL h2;obtain ⟨k2,k3⟩:=xv (k1.ok ho) h2;split at h
   ·cases h
   ·rename_i ts3 h3;cases h;exact ⟨k2,((k1.trans k3).trans (Sf.aE hb h3)).le (by omega)⟩
theorem B4 {e:Int} {d:Nat} {ts r:List Tok} {s:ah} {t:T} (ho:qW ts) (h:ko e d ts=.ok ((s,t),r)):bf s=true/\EF t/\Sf ts r (aK t+3):=by
 unfold ko at h;split at h
 ·cases h
 ·rename_i s' yr h1;obtain ⟨k1,k2⟩:=Sf.name h1 ho;split at h
  ·cases h
  ·rename_i t' vL h2;cases h;obtain ⟨k3,k4⟩:=wg (by decide) (by decide) (k1.ok ho) h2;exact ⟨k2,k3,(k1.trans k4).le (by omega)⟩
def SF (t:T):Prop:=∃ a:S,a.ok=true/\er t=a.tree
def Lr (l:List T):Prop:=∃ es:List S,S.cD es=true/\aI l=S.trees es
def BF (t:T):Prop:=∃ l:List S,S.cD l=true/\er t=bA l
theorem Lr.snoc {l:List T} {t:T} (h:Lr l) (k:SF t):Lr (l++[t]):=by
 obtain ⟨es,h1,h2⟩:=h;obtain ⟨a,h3,h4⟩:=k
 have key:∀ es:List S,S.cD es=true->S.cD (es++[a])=true/\S.trees (es++[a])=S.trees es++[a.tree]:=by
  intro es
  induction es with
  | nil=>intro _;simp [S.cD,S.trees,h3]
  | cons b es ih =>
   intro h;simp only [S.cD,Bool.and_eq_true] at h;obtain ⟨k1,k2⟩:=ih h.2;simp only [cons_append,S.cD,S.trees,k1,k2,h.1];simp
 obtain ⟨k1,k2⟩:=key es h1;exact ⟨es++[a],k1,by rw [Ih,h2,k2,aI,aI,h4]⟩
theorem PK {t:T} (h:EF t) (hk:t.n.kind=3):∃ (s:ah) (a:T),t.kids=[a]/\t.n.s=s/\bf s=true/\EF a:=by
 obtain ⟨a,h1,h2⟩:=h;have h3:=congrArg (fun x=>x.n.kind) h2;simp only [xt,hk] at h3
 cases a with
 | at_ s b =>
  simp only [E.ok,Bool.and_eq_true] at h1
  have h4:t.n.s=s:=by have:=congrArg (fun x=>x.n.s) h2;simp only [xt] at this;exact this
  have h5:aI t.kids=[b.tree]:=by rw [<-RT,h2];rfl
  match hl:t.kids,h5 with
  | [x],h5 =>
   rw [aI,aI] at h5
   injection h5 with h6
   exact ⟨s,x,rfl,h4,h1.1,b,h1.2,h6⟩
  | [],h5=>rw [aI] at h5;cases h5
  | x::y::r,h5=>rw [aI,aI] at h5;injection h5 with h6 h7;cases h7
 | num n=>simp [E.tree,T.n] at h3
 | name n=>simp [E.tree,T.n] at h3
 | call s l=>simp [E.tree,T.n] at h3
 | un s a=>simp [E.tree,T.n] at h3
 | bin s a b=>simp [E.tree,T.n] at h3
theorem HN {e:Int} {d:Nat} {ts r:List Tok} {t:T} (ho:qW ts) (h:simple e d ts=.ok (t,r)):SF t/\Sf ts r (aK t):=by
 unfold simple at h;split at h
 ·split at h <;> cases h
 ·rename_i t0 r0;split at h
  ·split at h
   ·cases h
   ·rename_i s a yr h1;cases h;obtain ⟨k1,⟨a',k2,k3⟩,k4⟩:=B4 ho h1;exact ⟨⟨.set s a',by simp only [S.ok,k1,k2];rfl,by rw [dy,aI,aI,k3,S.tree]⟩,k4.le (by simp only [iI,ay];omega)⟩
  ·split at h
   ·cases h
   ·rename_i a yr h1;obtain ⟨k1,k2⟩:=xv ho h1;split at h
    ·rename_i hc;split at h
     ·cases h
     ·rename_i v vL h2;cases h;obtain ⟨⟨v',k3,k4⟩,k5⟩:=wg (by decide) (by decide) (k2.ok ho) h2;obtain ⟨s,x,k6,k7,k8,x',k9,k10⟩:=PK k1 hc.1;have hz:=dZ a;rw [k6] at hz;simp only [ay] at hz;rw [k6];refine ⟨⟨.put s x' v',by simp only [S.ok,k8,k9,k3];rfl,?_⟩,(k2.trans k5).le ?_⟩
      ·rw [dy,k7];simp only [take_succ_cons,take_zero,cons_append,nil_append,aI,k10,k4,S.tree]
      ·simp only [take_succ_cons,take_zero,cons_append,nil_append,iI,ay];omega
    ·split at h
     ·cases h
     ·rename_i vL h2;cases h;obtain ⟨a',k3,k4⟩:=k1;exact ⟨⟨.do_ a',by simp only [S.ok,k3],by rw [dy,aI,aI,k4,S.tree]⟩,(k2.trans (Sf.aE (by decide) h2)).le (by simp only [iI,ay];omega)⟩
theorem SA (e:Int):∀ f,(∀ d ts t r,qW ts->rs e f (.block d) ts=.ok (t,r)->BF t/\Sf ts r (aK t))/\(∀ d ts t r,qW ts->rs e f (.stmt d) ts=.ok (t,r)->SF t/\Sf ts r (aK t)) /\
  (∀ d acc ts l r,qW ts->Lr acc->rs.body e f d acc ts=.ok (l,r)->Lr l/\∃ n,Sf ts r n/\ay l+1<=n+ay acc):=by
 intro f
 induction f with
 | zero=>exact ⟨fun d ts t r _ h=>by simp [rs] at h,fun d ts t r _ h=>by simp [rs] at h,fun d acc ts l r _ _ h=>by simp [rs.body] at h⟩
 | succ f ih =>
  obtain ⟨Xh,Z7,Xi⟩:=ih;refine ⟨fun d ts t r ho h=>?_,fun d ts t r ho h=>?_,fun d acc ts l r ho hj h=>?_⟩
  ·rw [rs] at h;split at h
   ·cases h
   ·split at h
    ·cases h
    ·rename_i r1 h1;have k1:=Sf.aE (by decide) h1;split at h
     ·cases h
     ·rename_i l r2 h2;cases h;obtain ⟨⟨es,k2,k3⟩,n,k4,k5⟩:=Xi _ [] r1 l r (k1.ok ho) ⟨[],rfl,rfl⟩ h2;exact ⟨⟨es,k2,by rw [dy,k3,bA]⟩,(k1.trans k4).le (by simp only [iI,ay] at *;omega)⟩
  ·rw [rs] at h;split at h
   ·cases h
   ·simp only at h;split at h
    ·rename_i hs;have k0:=Sf.sign (by decide) hs;split at h
     ·cases h
     ·rename_i s a yr h1;cases h;obtain ⟨k1,⟨a',k2,k3⟩,k4⟩:=B4 (k0.ok ho) h1;exact ⟨⟨.var s a',by simp only [S.ok,k1,k2];rfl,by rw [dy,aI,aI,k3,S.tree]⟩,(k0.trans k4).le (by simp only [iI,ay];omega)⟩
    ·split at h
     ·rename_i hs
      have k0:Sf ts ts.tail 1:=by
       rcases hs with hs | hs
       ·exact Sf.sign (by decide) hs
       ·exact Sf.sign (by decide) hs
      split at h
      ·cases h
      ·rename_i c r1 h1;obtain ⟨⟨c',k1,k2⟩,k3⟩:=wg (by decide) (by decide) (k0.ok ho) h1;have k4:=k0.trans k3;split at h
       ·cases h
       ·rename_i b r2 h2;obtain ⟨⟨lb,k5,k6⟩,k7⟩:=Xh _ _ b r2 (k4.ok ho) h2;have k8:=k4.trans k7;split at h
        ·split at h
         ·rename_i eP;have k9:=k8.trans (Sf.sign (by decide) eP);split at h
          ·cases h
          ·rename_i b2 r3 h3;cases h;obtain ⟨⟨lb2,j5,j6⟩,j7⟩:=Xh _ _ b2 r (k9.ok ho) h3;refine ⟨⟨.if2 c' lb lb2,by simp only [S.ok,k1,k5,j5];rfl,?_⟩,(k9.trans j7).le (by simp only [iI,ay];omega)⟩;rw [dy,aI,aI,aI,aI,k2,k6,j6,S.tree,bA,bA]
         ·cases h;refine ⟨⟨.if1 c' lb,by simp only [S.ok,k1,k5];rfl,?_⟩,k8.le (by simp only [iI,ay];omega)⟩;rw [dy,aI,aI,aI,k2,k6,S.tree,bA]
        ·cases h;refine ⟨⟨.while_ c' lb,by simp only [S.ok,k1,k5];rfl,?_⟩,k8.le (by simp only [iI,ay];omega)⟩;rw [dy,aI,aI,aI,k2,k6,S.tree,bA]
     ·split at h
      ·rename_i hs;have k0:=Sf.sign (by decide) hs;split at h
       ·cases h
       ·rename_i a yr h1;obtain ⟨⟨a',k1,k2⟩,k3⟩:=xv (k0.ok ho) h1;split at h
        ·cases h
        ·rename_i vL h2;cases h;exact ⟨⟨.ret a',by simp only [S.ok,k1],by rw [dy,aI,aI,k2,S.tree]⟩,((k0.trans k3).trans (Sf.aE (by decide) h2)).le (by simp only [iI,ay];omega)⟩
      ·exact HN ho h
  ·rw [rs.body] at h;split at h
   ·rename_i hc;cases h;exact ⟨hj,1,Sf.sign (by decide) hc,by omega⟩
   ·split at h
    ·cases h
    ·rename_i a yr h1;obtain ⟨k1,k2⟩:=Z7 _ ts a yr ho h1;obtain ⟨k3,m,k4,k5⟩:=Xi _ (acc++[a]) yr l r (k2.ok ho) (hj.snoc k1) h;refine ⟨k3,_,k2.trans k4,?_⟩;simp only [mf,ay] at *;omega
theorem JL {e:Int} {d:Nat} {ts r:List Tok} {t:T} (ho:qW ts) (h:block e d ts=.ok (t,r)):BF t/\Sf ts r (aK t):=(SA e _).1 _ ts t r ho h
end Go.Im
namespace Go.Sp
open Go.Xp
def dS (x:ah) (l:List K):Prop:=∀ pre post:ah,∃ ts,ts.map kf=l/\Tz (pre++(x++post)) pre.length ts (pre.length+x.length)
def fZ (x:ah) (l:List K):Prop:=∀ pre post:ah,Sep post->∃ ts,ts.map kf=l/\Tz (pre++(x++post)) pre.length ts (pre.length+x.length)
theorem dS.s {x:ah} {l:List K} (h:dS x l):fZ x l:=fun pre post _=>h pre post
theorem dS.app {x y:ah} {l m:List K} (h:dS x l) (k:dS y m):dS (x++y) (l++m):=by
 intro pre post;obtain ⟨ts,h1,h2⟩:=h pre (y++post);obtain ⟨us,h3,h4⟩:=k (pre++x) post;refine ⟨ts++us,by simp [h1,h3],?_⟩;rw [append_assoc] at h4 |-;rw [length_append] at h4 |-;rw [<-Nat.add_assoc];exact h2.app h4
theorem dS.apps {x y:ah} {l m:List K} (h:dS x l) (k:fZ y m):fZ (x++y) (l++m):=by
 intro pre post hp;obtain ⟨ts,h1,h2⟩:=h pre (y++post);obtain ⟨us,h3,h4⟩:=k (pre++x) post hp;refine ⟨ts++us,by simp [h1,h3],?_⟩;rw [append_assoc] at h4 |-;rw [length_append] at h4 |-;rw [<-Nat.add_assoc];exact h2.app h4
theorem fZ.ED {x y:ah} {l m:List K} (h:fZ x l) (k:dS y m) (hs:∀ post,Sep (y++post)):dS (x++y) (l++m):=by
 intro pre post;obtain ⟨ts,h1,h2⟩:=h pre (y++post) (hs post);obtain ⟨us,h3,h4⟩:=k (pre++x) post;refine ⟨ts++us,by simp [h1,h3],?_⟩;rw [append_assoc] at h4 |-;rw [length_append] at h4 |-;rw [<-Nat.add_assoc];exact h2.app h4
theorem dS.nil:dS [] []:=fun pre post=>⟨[],rfl,.nil _⟩
theorem yj {c:UInt8} {x:ah} (h:c∈CW):∀ post,Sep (c::x++post):=fun post d hd=>by cases hd;exact h
theorem sA {pre x:ah}:(pre++x).drop pre.length=x:=drop_left
theorem Tz.one {s:ah} {a a':Nat} {c:UInt8} {t:Tok} (hc:s[a]?=some c) (hb:dw c=false) (hr:bo s a [47,42]=false) (ht:iq s a c=(t,a')) (hk:t.kind=1\/t.kind=2\/t.kind=3) (hn:t.n<=2147483647) (ha:a < a'):Tz s a [t] a' :=
 .tok hc hb hr ht hk hn ha (.nil _)
theorem ya {c:UInt8} (h:dw c=true):dS [c] []:=by
 intro pre post;have hd:(pre++([c]++post)).drop pre.length=c::post:=sA;obtain ⟨h1,_,_⟩:=mb hd;exact ⟨[],rfl,.blank h1 h (.nil _)⟩
theorem lK {c:UInt8} (hm:c∈[40,41,91,93,44,59,123,125]):dS [c] [kS [c]]:=by
 intro pre post;have hd:(pre++([c]++post)).drop pre.length=c::post:=sA;obtain ⟨h1,_,h4⟩:=mb hd;obtain ⟨h2,h3,h5⟩:=OW (Nat.le_of_lt h4) hd hm;exact ⟨[_],rfl,Tz.one h1 h3 h5 h2 (by simp) (by simp) (by simp)⟩
theorem AX {w:ah} (hm:w∈bB):fZ w [kS w]:=by
 intro pre post hp;have hd:(pre++(w++post)).drop pre.length=w++post:=sA
 have bK:w≠[]:=by rintro rfl;revert hm;decide
 obtain ⟨c,r,hw⟩:=List.exists_cons_of_ne_nil bK;have dc:=hd;rw [hw,cons_append] at dc;obtain ⟨h1,_,h4⟩:=mb dc;rw [<-cons_append,<-hw] at h1 h4;obtain ⟨h2,h3,h5⟩:=PV (Nat.le_of_lt h4) hd hw hm hp
 have:0 < w.length:=by rw [hw];simp
 exact ⟨[_],rfl,Tz.one h1 h3 h5 h2 (by simp) (by simp) (by omega)⟩
theorem HO {c:UInt8} (h:small c=true):dw c=false/\c≠47:=by
 simp only [small,Bool.and_eq_true] at h;have h1:=of_decide_eq_true h.1;refine ⟨?_,fun h0=>?_⟩
 ·simp only [dw,Bool.or_eq_false_iff,beq_eq_false_iff_ne];omega
 ·subst h0;revert h1;decide
theorem DO {s r:ah} {a:Nat} {c:UInt8} (h:s.drop a=c::r) (hc:c≠47):bo s a [47,42]=false:=by
 obtain ⟨_,_,h4⟩:=mb h;rw [uv h (Nat.le_of_lt h4)];simp only [List.isPrefixOf]
 have:((47:UInt8)==c)=false:=by rw [beq_eq_false_iff_ne];exact fun h=>hc h.symm
 rw [this,Bool.false_and]
theorem F6 {w:ah} (hw:word w=true):fZ w [if words.contains w then kS w else kN w]:=by
 intro pre post hp;have hd:(pre++(w++post)).drop pre.length=w++post:=sA;simp only [word,Bool.and_eq_true,all_eq_true] at hw
 match w,hw,hd with
 | [],hw,_=>simp at hw
 | c::r,hw,hd =>
  obtain ⟨aO,hs⟩:=hw;have dc:=hd;rw [cons_append] at dc;obtain ⟨h1,_,h4⟩:=mb dc;obtain ⟨h3,h5⟩:=HO hs;have ht:=Qk (Nat.le_of_lt h4) hd rfl hs aO hp.dH;refine ⟨[_],?_,Tz.one h1 h3 (DO dc h5) ht ?_ (by simp) (by simp)⟩
  ·simp only [List.map_cons,List.map_nil,kf,kS,kN];split <;> rfl
  ·simp only;split <;> simp
theorem jy {w:ah} (hw:bf w=true):fZ w [kN w]:=by
 simp only [bf,Bool.and_eq_true,Bool.not_eq_true'] at hw;have:=F6 hw.1.1;rw [if_neg (by rw [hw.2];decide)] at this;exact this
theorem Nj {w:ah} (hw:w∈words):fZ w [kS w]:=by
 have h1:∀ w∈words,word w=true:=by decide
 have:=F6 (h1 w hw);rw [if_pos (by simpa using hw)] at this;exact this
theorem I2 {n:Nat} (hn:n<=2147483647):fZ (cm n) [kI n]:=by
 intro pre post hp;have hd:(pre++(cm n++post)).drop pre.length=cm n++post:=sA;obtain ⟨h1,h2,h3⟩:=H8 n;obtain ⟨c,r,hw⟩:=List.exists_cons_of_ne_nil h3;have dc:=hd;rw [hw,cons_append] at dc;obtain ⟨h4,_,h5⟩:=mb dc;rw [<-cons_append,<-hw] at h4 h5;have hc:dM c=true:=h1 c (by rw [hw];exact mem_cons_self)
 have Du:dw c=false/\c≠47:=by
  simp only [dM,Bool.and_eq_true] at hc;have h1:=of_decide_eq_true hc.1;refine ⟨?_,fun h0=>?_⟩
  ·simp only [dw,Bool.or_eq_false_iff,beq_eq_false_iff_ne];omega
  ·subst h0;revert h1;decide
 have ht:=Sn (Nat.le_of_lt h5) hd hw hn hp.dM
 have:0 < (cm n).length:=by rw [hw];simp
 refine ⟨[_],rfl,Tz.one h4 Du.1 ?_ ht (by simp) (by simpa using by omega) (by omega)⟩;have zx:=dc;rw [<-cons_append,<-hw] at zx;rw [hw] at zx |-;exact DO zx Du.2
theorem UG {s:ah} (h:ek s=true):s∈bB:=by
 have hm:s∈levels.flatten:=by
  unfold ek at h;rw [any_eq_true] at h;obtain ⟨l,hl,hc⟩:=h;exact List.mem_flatten.2 ⟨l,hl,by simpa using hc⟩
 have key:∀ s∈levels.flatten,s∈bB:=by decide
 exact key s hm
theorem KV:dS [32] []:=ya (by decide)
theorem fZ.then {x:ah} {l:List K} (h:fZ x l) {c:UInt8} (hm:c∈[40,41,91,93,44,59,123,125]):dS (x++[c]) (l++[kS [c]]) :=
 h.ED (lK hm) (yj (by revert hm;unfold CW;simp only [List.mem_cons,List.not_mem_nil,or_false];rintro (h | h | h | h | h | h | h | h) <;> simp [h]))
theorem fZ.sp {x:ah} {l:List K} (h:fZ x l):dS (x++[32]) l:=by
 have:=h.ED KV (yj (by decide));rw [append_nil] at this;exact this
theorem fZ.eq {x:ah} {l l':List K} (h:fZ x l) (e:l=l'):fZ x l':=e ▸ h
theorem dS.eq {x:ah} {l l':List K} (h:dS x l) (e:l=l'):dS x l':=e ▸ h
theorem CI {lv k:Nat} {x:ah} {l:List K} (h:fZ x l):fZ (pX lv k x) (brk lv k l):=by
 unfold pX brk;split
 ·have:=((lK (c:=40) (by decide)).apps h).then (c:=41) (by decide);exact this.s.eq (by simp)
 ·exact h
mutual
theorem oC:∀ a:E,a.ok=true->fZ a.txt a.tk
 | .num n,h=>by
  simp only [E.ok,Bool.and_eq_true] at h;have h1:=of_decide_eq_true h.1;have h2:=of_decide_eq_true h.2;have:=I2 (n:=n.toNat) (by omega);rw [E.txt,E.tk];rw [Int.toNat_of_nonneg h1] at this;exact this
 | .name s,h=>by rw [E.txt,E.tk];exact jy h
 | .at_ s a,h=>by
  simp only [E.ok,Bool.and_eq_true] at h;rw [E.txt,E.tk];exact ((((jy h.1).then (c:=91) (by decide)).apps (oC a h.2)).then (c:=93) (by decide)).s.eq (by simp)
 | .call s l,h=>by
  simp only [E.ok,Bool.and_eq_true] at h;rw [E.txt,E.tk];exact ((((jy h.1).then (c:=40) (by decide)).apps (V7 l h.2)).then (c:=41) (by decide)).s.eq (by simp)
 | .un s a,h=>by
  simp only [E.ok,Bool.and_eq_true,Bool.or_eq_true,beq_iff_eq] at h;rw [E.txt,E.tk]
  have hs:s∈bB:=by rcases h.1 with (h | h) | h <;> (rw [h];decide)
  exact ((AX hs).sp.apps (CI (oC a h.2))).eq (by simp)
 | .bin s a b,h=>by
  simp only [E.ok,Bool.and_eq_true] at h;rw [E.txt,E.tk];exact ((((CI (oC a h.1.2)).sp.apps (AX (UG h.1.1))).sp).apps (CI (oC b h.2))).eq (by simp)
theorem V7:∀ l:List E,E.cD l=true->fZ (bt (E.cy l)) (E.l7 l)
 | [],_=>dS.nil.s
 | a::l,h=>by
  simp only [E.cD,Bool.and_eq_true] at h;rw [E.cy,E.l7,bt];exact Q7 l h.2 _ _ (oC a h.1)
theorem Q7:∀ l:List E,E.cD l=true->∀ x m,fZ x m->fZ (x++(E.cy l).flatMap fun y=>44::32::y) (m++E.pO l)
 | [],_,x,m,hx=>by rw [E.cy,E.pO];simpa using hx
 | a::l,h,x,m,hx=>by
  simp only [E.cD,Bool.and_eq_true] at h;have h1:=((hx.then (c:=44) (by decide)).app KV).apps (oC a h.1);have h2:=Q7 l h.2 _ _ h1;rw [E.cy,E.pO,flatMap_cons]
  have e1:x++((44::32::a.txt)++(E.cy l).flatMap fun y=>44::32::y)=(x++[44]++[32]++a.txt)++(E.cy l).flatMap fun y=>44::32::y:=by simp
  rw [e1];exact h2.eq (by simp)
end
theorem fZ.set {x:ah} {l:List K} (h:fZ x l):dS (x++[32,61,32]) (l++[kS [61]]):=by
 have:=(h.sp.apps (AX (w:=[61]) (by decide))).sp;simpa using this
theorem ua {w:ah} (hw:w∈words):dS (w++[32]) [kS w]:=(Nj hw).sp
mutual
theorem V8:∀ s:S,s.ok=true->dS (s.txt E.txt) s.tk
 | .set s a,h=>by
  simp only [S.ok,Bool.and_eq_true] at h;rw [S.txt,S.tk];exact (((jy h.1).set.apps (oC a h.2)).then (c:=59) (by decide)).eq (by simp)
 | .put s a b,h=>by
  simp only [S.ok,Bool.and_eq_true] at h;rw [S.txt,S.tk];have h1:=((((jy h.1).then (c:=91) (by decide)).apps (oC a h.2.1)).then (c:=93) (by decide)).s.set;have h2:=(h1.apps (oC b h.2.2)).then (c:=59) (by decide)
  have e:s++[91]++a.txt++[93,32,61,32]++b.txt++[59]=s++[91]++a.txt++[93]++[32,61,32]++b.txt++[59]:=by simp
  rw [e];exact h2.eq (by simp)
 | .if1 c b,h=>by
  simp only [S.ok,Bool.and_eq_true] at h;rw [S.txt,S.tk];have h1:=((((ua (w:=[105,102]) (by decide)).app (lK (c:=40) (by decide))).apps (oC c h.1)).then (c:=41) (by decide)).s.sp;have h2:=h1.app (lexB b h.2)
  have e:[105,102,32,40]++c.txt++[41,32]++(S.cy E.txt [123,32] b++[125])=[105,102]++[32]++[40]++c.txt++[41]++[32]++(S.cy E.txt [123,32] b++[125]):=by simp
  rw [e];exact h2.eq (by simp [dF])
 | .if2 c b b2,h=>by
  simp only [S.ok,Bool.and_eq_true] at h;rw [S.txt,S.tk];have h1:=((((ua (w:=[105,102]) (by decide)).app (lK (c:=40) (by decide))).apps (oC c h.1)).then (c:=41) (by decide)).s.sp;have h2:=h1.app (lexB b h.2.1);have h3:=((h2.s.sp.apps (Nj (w:=[101,108,115,101]) (by decide))).sp).app (lexB b2 h.2.2)
  have e:[105,102,32,40]++c.txt++[41,32]++(S.cy E.txt [123,32] b++[125])++[32,101,108,115,101,32]++(S.cy E.txt [123,32] b2++[125])=[105,102]++[32]++[40]++c.txt++[41]++[32]++(S.cy E.txt [123,32] b++[125])++[32]++[101,108,115,101]++[32]++(S.cy E.txt [123,32] b2++[125]):=by simp
  rw [e];exact h3.eq (by simp [dF,dY])
 | .while_ c b,h=>by
  simp only [S.ok,Bool.and_eq_true] at h;rw [S.txt,S.tk];have h1:=((((ua (w:=[119,104,105,108,101]) (by decide)).app (lK (c:=40) (by decide))).apps (oC c h.1)).then (c:=41) (by decide)).s.sp;have h2:=h1.app (lexB b h.2)
  have e:[119,104,105,108,101,32,40]++c.txt++[41,32]++(S.cy E.txt [123,32] b++[125])=[119,104,105,108,101]++[32]++[40]++c.txt++[41]++[32]++(S.cy E.txt [123,32] b++[125]):=by simp
  rw [e];exact h2.eq (by simp [dh])
 | .ret a,h=>by
  simp only [S.ok] at h;rw [S.txt,S.tk];have h1:=((ua (w:=[114,101,116,117,114,110]) (by decide)).apps (oC a h)).then (c:=59) (by decide);exact h1.eq (by simp [cY])
 | .do_ a,h=>by
  simp only [S.ok] at h;rw [S.txt,S.tk];exact (oC a h).then (c:=59) (by decide)
 | .var s a,h=>by
  simp only [S.ok,Bool.and_eq_true] at h;rw [S.txt,S.tk];have h1:=((((ua (w:=[118,97,114]) (by decide)).apps (jy h.1)).set).apps (oC a h.2)).then (c:=59) (by decide);exact h1.eq (by simp [fY])
theorem lexB:∀ l:List S,S.cD l=true->dS (S.cy E.txt [123,32] l++[125]) (kS [123]::(S.l7 l++[kS [125]]))
 | l,h=>by
  have h0:dS [123,32] [kS [123]]:=by
   have:=(lK (c:=123) (by decide)).s.sp;simpa using this
  exact ((Q8 l h _ _ h0).s.then (c:=125) (by decide)).eq (by simp)
theorem Q8:∀ l:List S,S.cD l=true->∀ acc m,dS acc m->dS (S.cy E.txt acc l) (m++S.l7 l)
 | [],_,acc,m,h=>by rw [S.cy,S.l7,append_nil];exact h
 | a::l,ho,acc,m,h=>by
  simp only [S.cD,Bool.and_eq_true] at ho;rw [S.cy,S.l7];have h1:=(h.app (V8 a ho.1)).s.sp;exact (Q8 l ho.2 _ _ h1).eq (by simp)
end
theorem dS.all {x:ah} {l:List K} (h:dS x l):∃ ts,ts.map kf=l/\Tz x 0 ts x.length:=by
 obtain ⟨ts,h1,h2⟩:=h [] [];exact ⟨ts,h1,by simpa using h2⟩
theorem I0 {l:List S} (h:S.cD l=true):dS (eM E.txt l) (JK l):=lexB l h
end Go.Sp
namespace Go.Im
open Go.Xp Go.Sp
def Mq (s:ah):List K:=[kS kQ,kN s,kS [59]]
def HU (a:Ar):List K:=[kS kQ,kN a.name,kS [91],kI a.size,kS [93],kS [59]]
def uE:List ah->List K
 | []=>[]
 | s::r=>kS [44]::kN s::uE r
def Gi:List ah->List K
 | []=>[]
 | s::r=>kN s::uE r
def Io (x:Fn × List S):List K:=kS l6::kN x.1.name::kS [40]::(Gi x.1.params++kS [41]::JK x.2)
def f2 (x:Fn × List S):ah:=((((([102,117,110,99,32]++x.1.name)++[40])++bt x.1.params)++[41,32])++eM E.txt x.2)++[10]
theorem I1:dS [59,10] [kS [59]]:=(lK (c:=59) (by decide)).app (ya (c:=10) (by decide))
theorem Wb {s:ah} (h:bf s=true):dS (g1 s) (Mq s) :=
 ((ua (w:=kQ) (by decide)).apps (jy h)).ED I1 (yj (c:=59) (x:=[10]) (by decide))
theorem V9 {a:Ar} (h:nN a=true):dS (a1 a) (HU a):=by
 unfold nN at h;simp only [Bool.and_eq_true,Bool.not_eq_true',decide_eq_false_iff_not] at h;obtain ⟨⟨h1,h2⟩,h3⟩:=h
 have hz:nw a.size=cm a.size.toNat:=by unfold nw;rw [if_neg h2]
 have hk:kI a.size=kI ((a.size.toNat:Nat):Int):=by rw [Int.toNat_of_nonneg (by omega)]
 have x1:=((ua (w:=kQ) (by decide)).apps (jy h1)).then (c:=91) (by decide);have x2:=x1.apps (I2 (n:=a.size.toNat) (by omega));have x3:=x2.ED ((lK (c:=93) (by decide)).app I1) (yj (c:=93) (x:=[59,10]) (by decide));unfold a1 HU;rw [hz,hk];exact x3
theorem Nk:∀ (ps:List ah),b9 ps=true->∀ x m,fZ x m->fZ (x++ps.flatMap fun y=>44::32::y) (m++uE ps)
 | [],_,x,m,h=>by rw [List.flatMap_nil,append_nil,uE,append_nil];exact h
 | s::r,hp,x,m,h=>by
  unfold b9 at hp;rw [all_cons,Bool.and_eq_true] at hp;have h1:=(h.then (c:=44) (by decide)).app KV;have h2:=h1.apps (jy hp.1);have h3:=Nk r hp.2 _ _ h2;rw [flatMap_cons,uE];refine fZ.eq (cast (congrArg (fun z=>fZ z _) ?_) h3) ?_
  ·simp
  ·simp
theorem Wc {ps:List ah} (h:b9 ps=true):fZ (bt ps) (Gi ps):=by
 match ps,h with
 | [],_=>exact dS.nil.s
 | s::r,h =>
  unfold b9 at h;rw [all_cons,Bool.and_eq_true] at h;exact Nk r h.2 s [kN s] (jy h.1)
theorem Wa {x:Fn × List S} (h1:bf x.1.name=true) (h2:b9 x.1.params=true) (h3:S.cD x.2=true):dS (f2 x) (Io x):=by
 have x1:=((ua (w:=l6) (by decide)).apps (jy h1)).then (c:=40) (by decide);have x2:=(x1.apps (Wc h2)).ED ((lK (c:=41) (by decide)).app KV) (yj (c:=41) (x:=[32]) (by decide));have x3:=(x2.app (I0 h3)).app (ya (c:=10) (by decide));refine dS.eq x3 ?_;simp [Io]
theorem yR {α:Type} {f:α->ah} {k:α->List K}:∀ (l:List α),(∀ x∈l,dS (f x) (k x))->∀ acc m,dS acc m->dS (c8 f acc l) (m++l.flatMap k)
 | [],_,acc,m,h=>by rw [c8,List.flatMap_nil,append_nil];exact h
 | x::l,hl,acc,m,h=>by
  rw [c8,flatMap_cons,<-append_assoc];exact yR l (fun y hy=>hl y (mem_cons_of_mem _ hy)) _ _ (h.app (hl x mem_cons_self))
theorem LJ {inl:List ah->Nat->ah}:∀ (fns:List Fn) (l:List T) (ls:List (List S)) (acc:ah),ls.length=l.length->(∀ (i:Nat) t b,l[i]?=some t->ls[i]?=some b->mr cE inl 0 t=eM E.txt b) ->
  c8 (f1 cE inl) acc (fns.zip l)=c8 f2 acc (fns.zip ls)
 | [],l,ls,acc,_,_=>by simp [c8]
 | f::r,[],[],acc,_,_=>by simp [c8]
 | f::r,t::l,b::ls,acc,hl,h=>by
  have h0:=h 0 t b rfl rfl;rw [zip_cons_cons,zip_cons_cons,c8,c8,LJ r l ls _ (by simpa using hl) fun i t' b' h1 h2=>h (i+1) t' b' (by simpa using h1) (by simpa using h2)];simp only [f1,f2,h0]
 | f::r,[],b::ls,acc,hl,_=>by simp at hl
 | f::r,t::l,[],acc,hl,_=>by simp at hl
section
variable {p q:RS} {ts r rest:List Tok} {u:Tok} {s:ah}
theorem pR (h:On p (u::r)):tok p 0=u:=by rw [On.tok h];rfl
theorem AU (h:On p (u::r)) (hk:kf u=kS s):is p 0 s=true:=by
 obtain ⟨h1,h2⟩:=dL hk;unfold is;rw [pR h,h1,h2];simp
theorem Kf (h:On p (u::r)) {k:K} (hk:kf u=k) (hn:k.1=3->k.2.2≠s):is p 0 s=false:=by
 unfold is;rw [pR h];subst hk
 by_cases h3:u.kind=3
 ·have:=hn h3;simp only [kf] at this;simp [h3,this]
 ·simp [h3]
theorem tG (h:On p (u::r)) (hk:kf u=kS s):want p s=p.next:=by unfold want;rw [if_pos h.code,if_pos (AU h hk)]
theorem yd (h:On p (u::r)) (hk:kf u=kN s) (hl:bf s=true):be p=p.next:=by
 obtain ⟨h1,h2⟩:=pF hk;have:=lL hl;unfold be;rw [if_pos h.code,pR h,if_pos h1,if_neg (by rw [h2];omega)]
theorem nx (h:On p (u::r)):On p.next r:=h.next.1
theorem ed (h:On p (u::r)):p.next.l=p.l/\p.next.e=p.e:=⟨h.next.2.1,h.next.2.2⟩
theorem Yr (h:On p (u::r)):p.i < p.l.length:=by
 have:=congrArg List.length h.rest;rw [length_drop,length_cons] at this;omega
theorem UJ (h:On p []):¬ p.i < p.l.length:=by
 have:=congrArg List.length h.rest;rw [length_drop,length_nil] at this;omega
theorem IK {G f:Nat} {st:PS} (h:p.code≠0) (hg:1<=G):my G f p st=some (p,st):=by
 obtain ⟨G,rfl⟩:∃ g',G=g'+1:=⟨G - 1,by omega⟩;rw [my,if_neg (fun hc=>h hc.1)]
theorem yQ {f:Nat} {acc:List ah} (h:p.code≠0) (hg:1<=f):od f acc p=some (acc,p):=by
 obtain ⟨f,rfl⟩:∃ g',f=g'+1:=⟨f - 1,by omega⟩;rw [od,if_neg (fun hc=>h hc.1),fx h]
end
theorem Yn {f:Nat} {p:RS} {st:PS} {ts rest:List Tok} {s:ah} (hp:On p (ts++rest)) (ht:ts.map kf=Mq s) (hs:bf s=true) :
  ∃ q,iW f p st=some (q,{ st with globals:=st.globals++[s] })/\bz p q (.ok rest):=by
 obtain ⟨u,r,rfl,h1,ht⟩:=map_cons ht;obtain ⟨v,r,rfl,h2,ht⟩:=map_cons ht;obtain ⟨w,rfl,h3⟩:=gA ht;simp only [cons_append,nil_append] at hp;have p1:=nx hp;have p2:=nx p1;have p3:=nx p2;refine ⟨p.next.next.next,?_,p3,by rw [(ed p2).1,(ed p1).1,(ed hp).1],by rw [(ed p2).2,(ed p1).2,(ed hp).2]⟩;unfold iW;rw [if_pos (AU hp h1),yd p1 h2 hs,Kf p2 h3 (by decide),if_neg (by rintro ⟨_,h⟩;cases h),tG p2 h3,pR p1,(pF h2).2]
theorem Yl {f:Nat} {p:RS} {st:PS} {ts rest:List Tok} {a:Ar} (hp:On p (ts++rest)) (ht:ts.map kf=HU a) (hs:bf a.name=true) :
  ∃ q,iW f p st=some (q,{ st with arrays:=st.arrays++[a] })/\bz p q (.ok rest):=by
 obtain ⟨u,r,rfl,h1,ht⟩:=map_cons ht;obtain ⟨v,r,rfl,h2,ht⟩:=map_cons ht;obtain ⟨w,r,rfl,h3,ht⟩:=map_cons ht;obtain ⟨x,r,rfl,h4,ht⟩:=map_cons ht;obtain ⟨y,r,rfl,h5,ht⟩:=map_cons ht;obtain ⟨z,rfl,h6⟩:=gA ht;simp only [cons_append,nil_append] at hp;have p1:=nx hp;have p2:=nx p1;have p3:=nx p2;have p4:=nx p3;have p5:=nx p4;have p6:=nx p5;refine ⟨p.next.next.next.next.next.next,?_,p6,by rw [(ed p5).1,(ed p4).1,(ed p3).1,(ed p2).1,(ed p1).1,(ed hp).1],by rw [(ed p5).2,(ed p4).2,(ed p3).2,(ed p2).2,(ed p1).2,(ed hp).2]⟩;unfold iW;rw [if_pos (AU hp h1),yd p1 h2 hs,if_pos ⟨p2.code,AU p2 h3⟩,pR p3,if_pos (Pk h4).1,tG p4 h5,tG p5 h6,pR p1,(pF h2).2,(Pk h4).2]
theorem Q2 {rest:List Tok} {u:Tok} (hu:kf u=kS [41]):∀ (ps:List ah) (f:Nat) (acc:List ah) (p:RS) (ts:List Tok),ps.length < f->acc≠[]->b9 ps=true->On p (ts++u::rest)->ts.map kf=uE ps ->
  ∃ q,od f acc p=some (acc++ps,q)/\bz p q (.ok rest)
 | [],f,acc,p,ts,hf,ha,_,hp,ht=>by
  obtain ⟨f,rfl⟩:∃ g',f=g'+1:=⟨f - 1,by omega⟩
  have:ts=[]:=by simpa [uE] using ht
  subst this;rw [nil_append] at hp;refine ⟨p.next,?_,nx hp,ed hp⟩;rw [od,if_neg (by rw [AU hp hu];rintro ⟨_,h⟩;cases h),tG hp hu,append_nil]
 | s::ps,f,acc,p,ts,hf,ha,hn,hp,ht=>by
  obtain ⟨f,rfl⟩:∃ g',f=g'+1:=⟨f - 1,by omega⟩;rw [uE] at ht;obtain ⟨v,r,rfl,h1,ht⟩:=map_cons ht;obtain ⟨w,r,rfl,h2,ht⟩:=map_cons ht;unfold b9 at hn;rw [all_cons,Bool.and_eq_true] at hn;simp only [cons_append] at hp;have p1:=nx hp;have p2:=nx p1
  have Zl:acc.length≠0:=fun h=>ha (eq_nil_of_length_eq_zero h)
  rw [length_cons] at hf
  obtain ⟨q,h3,h4⟩:=Q2 hu ps f (acc++[s]) p.next.next r (by omega) (by simp) hn.2 p2 ht
  refine ⟨q,?_,h4.1,by rw [h4.2.1,(ed p1).1,(ed hp).1],by rw [h4.2.2,(ed p1).2,(ed hp).2]⟩;rw [od,if_pos ⟨hp.code,Kf hp h1 (by decide)⟩,if_neg Zl,tG hp h1,pR p1,(pF h2).2,yd p1 h2 hn.1,h3];simp
theorem VZ {rest:List Tok} {u:Tok} (hu:kf u=kS [41]) (ps:List ah) (f:Nat) (p:RS) (ts:List Tok) (hf:ps.length < f) (hn:b9 ps=true) (hp:On p (ts++u::rest)) (ht:ts.map kf=Gi ps) :
  ∃ q,od f [] p=some (ps,q)/\bz p q (.ok rest):=by
 obtain ⟨f,rfl⟩:∃ g',f=g'+1:=⟨f - 1,by omega⟩
 match ps,hn,ht,hf with
 | [],_,ht,_ =>
  have:ts=[]:=by simpa [Gi] using ht
  subst this;rw [nil_append] at hp;refine ⟨p.next,?_,nx hp,ed hp⟩;rw [od,if_neg (by rw [AU hp hu];rintro ⟨_,h⟩;cases h),tG hp hu]
 | s::ps,hn,ht,hf =>
  rw [Gi] at ht;obtain ⟨w,r,rfl,h2,ht⟩:=map_cons ht;unfold b9 at hn;rw [all_cons,Bool.and_eq_true] at hn;simp only [cons_append] at hp;have p2:=nx hp;rw [length_cons] at hf
  obtain ⟨q,h3,h4⟩:=Q2 hu ps f ([]++[s]) p.next r (by omega) (by simp) hn.2 p2 ht
  refine ⟨q,?_,h4.1,by rw [h4.2.1,(ed hp).1],by rw [h4.2.2,(ed hp).2]⟩;rw [od,if_pos ⟨hp.code,Kf hp h2 (fun h=>by cases h)⟩,if_pos (by rfl),pR hp,(pF h2).2,yd hp h2 hn.1,h3];rfl
def fW (p:RS):Nat:=40 * p.l.length+100
theorem Gj:∀ ps:List ah,ps.length<=(uE ps).length
 | []=>Nat.zero_le _
 | s::r=>by have:=Gj r;rw [uE,length_cons,length_cons,length_cons];omega
theorem Ss (ps:List ah):ps.length<=(Gi ps).length:=by
 cases ps with
 | nil=>exact Nat.zero_le _
 | cons s r=>have:=Gj r;rw [Gi,length_cons,length_cons];omega
theorem On.len {p:RS} {ts:List Tok} (h:Go.Sp.On p ts):ts.length<=p.l.length:=by
 rw [<-h.rest,length_drop];omega
theorem Ux {f:Nat} {q:RS} {ts:List Tok} (hq:Go.Sp.On q ts) (hs:sn q.l) (hf:fW q<=f):∃ t q',iS f (.block 1) q=some (t,q')/\iy q q' t (block q.e 1 ts):=by
 obtain ⟨t,q',h1,h2⟩:=(Z8 (lU ts)).block 1 ts q hq hs vP;have:=On.len hq;exact ⟨t,q',h1 f (by unfold KI lU;unfold fW at hf;omega),h2⟩
theorem Ym {f:Nat} {p:RS} {st:PS} {ts rest:List Tok} {x:Fn × List S} (hp:On p (ts++rest)) (hs:sn p.l) (hf:fW p<=f) (ht:ts.map kf=Io x) (h1:bf x.1.name=true) (h2:b9 x.1.params=true) (h3:S.cD x.2=true) :
  (ei x.2 1=true->∃ q t,iW f p st=some (q,{ st with trees:=st.trees++[t],fns:=st.fns++[(x.1.name,x.1.params)] })/\er t=bA x.2/\bz p q (.ok rest)) /\
  (ei x.2 1=false->∃ q dK,iW f p st=some (q,dK)/\q.code≠0):=by
 obtain ⟨u,r,rfl,k1,ht⟩:=map_cons ht;obtain ⟨v,r,rfl,k2,ht⟩:=map_cons ht;obtain ⟨w,r,rfl,k3,ht⟩:=map_cons ht;obtain ⟨A,r,rfl,k4,ht⟩:=cV ht;obtain ⟨y,r,rfl,k5,ht⟩:=map_cons ht;simp only [cons_append,append_assoc] at hp;have p1:=nx hp;have p2:=nx p1;have p3:=nx p2
 have hl:p.next.next.next.l=p.l:=by rw [(ed p2).1,(ed p1).1,(ed hp).1]
 have hA:x.1.params.length<=A.length:=by have:=Ss x.1.params;rw [<-k4,length_map] at this;exact this
 have cB:=On.len p3;simp only [length_append] at cB;rw [hl] at cB
 have TS:x.1.params.length < f:=by unfold fW at hf;omega
 obtain ⟨q,h4,h5⟩:=VZ k5 x.1.params f p.next.next.next A TS h2 p3 k4
 have qa:q.l=p.l:=h5.2.1.trans hl;obtain ⟨t,q',h6,h7⟩:=Ux (f:=f) h5.1 (by rw [qa];exact hs) (by unfold fW at hf |-;rw [qa];exact hf);obtain ⟨r1,r2⟩:=EH (e:=q.e) (d:=1) (rest:=rest) h3 ht
 have hw:iW f p st=some (q',{ st with trees:=st.trees++[t],fns:=st.fns++[(x.1.name,x.1.params)] }):=by
  unfold iW;rw [if_neg (by rw [Kf hp k1 (by decide)];decide),if_pos (AU hp k1),yd p1 k2 h1,tG p2 k3,h4];simp only;rw [if_pos h5.1.code,h6,pR p1,(pF k2).2]
 refine ⟨fun uB=>?_,fun uB=>?_⟩
 ·obtain ⟨t',j1,j2⟩:=r1 uB;rw [j2] at h7;obtain ⟨rfl,j3⟩:=h7;exact ⟨q',t,hw,j1,j3.1,j3.2.1.trans qa,j3.2.2.trans (h5.2.2.trans (by rw [(ed p2).2,(ed p1).2,(ed hp).2]))⟩
 ·obtain ⟨pos,j2⟩:=r2 uB;rw [j2] at h7;exact ⟨q',_,hw,bz.err h7⟩
theorem qo {G f:Nat} {p q:RS} {st dK:PS} {u:Tok} {r:List Tok} (hp:On p (u::r)) (h:iW f p st=some (q,dK)):my (G+1) f p st=my G f q dK:=by
 rw [my,if_pos ⟨hp.code,Yr hp⟩,h]
theorem Q5 {f:Nat} {rest:List Tok}:∀ (gs:List ah) (p:RS) (st:PS) (ts:List Tok),On p (ts++rest)->ts.map kf=gs.flatMap Mq->b9 gs=true ->
  ∃ q,bz p q (.ok rest)/\∀ G,my (G+gs.length) f p st=my G f q { st with globals:=st.globals++gs }
 | [],p,st,ts,hp,ht,_=>by
  have:ts=[]:=by simpa using ht
  subst this;exact ⟨p,On.self hp,fun G=>by simp⟩
 | s::gs,p,st,ts,hp,ht,hn=>by
  rw [flatMap_cons] at ht;obtain ⟨A,B,rfl,h1,h2⟩:=cV ht;unfold b9 at hn;rw [all_cons,Bool.and_eq_true] at hn;rw [append_assoc] at hp;obtain ⟨q,h3,h4⟩:=Yn (f:=f) (st:=st) hp h1 hn.1;obtain ⟨q',h5,h6⟩:=Q5 gs q { st with globals:=st.globals++[s] } B h4.1 h2 hn.2;refine ⟨q',h4.tr h5,fun G=>?_⟩;obtain ⟨u,r,rfl,_,_⟩:=map_cons h1;rw [length_cons,<-Nat.add_assoc,qo hp h3,h6];simp
theorem Q3 {f:Nat} {rest:List Tok}:∀ (as:List Ar) (p:RS) (st:PS) (ts:List Tok),On p (ts++rest)->ts.map kf=as.flatMap HU->as.all nN=true ->
  ∃ q,bz p q (.ok rest)/\∀ G,my (G+as.length) f p st=my G f q { st with arrays:=st.arrays++as }
 | [],p,st,ts,hp,ht,_=>by
  have:ts=[]:=by simpa using ht
  subst this;exact ⟨p,On.self hp,fun G=>by simp⟩
 | s::gs,p,st,ts,hp,ht,hn=>by
  rw [flatMap_cons] at ht;obtain ⟨A,B,rfl,h1,h2⟩:=cV ht;rw [all_cons,Bool.and_eq_true] at hn;rw [append_assoc] at hp
  have dX:bf s.name=true:=by have:=hn.1;unfold nN at this;simp only [Bool.and_eq_true] at this;exact this.1.1
  obtain ⟨q,h3,h4⟩:=Yl (f:=f) (st:=st) hp h1 dX;obtain ⟨q',h5,h6⟩:=Q3 gs q { st with arrays:=st.arrays++[s] } B h4.1 h2 hn.2;refine ⟨q',h4.tr h5,fun G=>?_⟩;obtain ⟨u,r,rfl,_,_⟩:=map_cons h1;rw [length_cons,<-Nat.add_assoc,qo hp h3,h6];simp
def Vr (x:Fn × List S):Prop:=bf x.1.name=true/\b9 x.1.params=true/\S.cD x.2=true
theorem Q4 {f:Nat}:∀ (xs:List (Fn × List S)) (p:RS) (st:PS) (ts:List Tok),On p ts->sn p.l->fW p<=f->ts.map kf=xs.flatMap Io->(∀ x∈xs,Vr x) ->
  ((xs.all fun x=>ei x.2 1)=true->∃ q l,(∀ G,xs.length < G->my G f p st=some (q,{ st with trees:=st.trees++l,fns:=st.fns++xs.map fun x=>(x.1.name,x.1.params) }))/\q.code=0/\aI l=xs.map fun x=>bA x.2) /\
  ((xs.all fun x=>ei x.2 1)=false->∃ q dK,(∀ G,xs.length < G->my G f p st=some (q,dK))/\q.code≠0)
 | [],p,st,ts,hp,_,_,ht,_=>by
  have:ts=[]:=by simpa using ht
  subst this;refine ⟨fun _=>⟨p,[],fun G hG=>?_,hp.code,by rw [aI];rfl⟩,fun h=>by cases h⟩;obtain ⟨G,rfl⟩:∃ g',G=g'+1:=⟨G - 1,by rw [length_nil] at hG;omega⟩;rw [my,if_neg (fun hc=>UJ hp hc.2)];simp
 | x::xs,p,st,ts,hp,hs,hf,ht,hx=>by
  rw [flatMap_cons] at ht;obtain ⟨A,B,rfl,h1,h2⟩:=cV ht;obtain ⟨x1,x2,x3⟩:=hx x mem_cons_self;obtain ⟨k1,k2⟩:=Ym (st:=st) hp hs hf h1 x1 x2 x3
  have bK:∃ u r,A++B=u::r:=by obtain ⟨u,r,rfl,_,_⟩:=map_cons h1;exact ⟨u,_,rfl⟩
  obtain ⟨u,r,hu⟩:=bK;rw [hu] at hp
  cases hb:ei x.2 1 with
  | false =>
   obtain ⟨q,dK,k3,k4⟩:=k2 hb;refine ⟨fun h=>(by rw [all_cons,hb] at h;cases h),fun _=>⟨q,dK,fun G hG=>?_,k4⟩⟩;obtain ⟨G,rfl⟩:∃ g',G=g'+1:=⟨G - 1,by rw [length_cons] at hG;omega⟩;rw [qo hp k3,IK k4 (by rw [length_cons] at hG;omega)]
  | true =>
   obtain ⟨q,t,k3,k4,k5⟩:=k1 hb;have qa:q.l=p.l:=k5.2.1;obtain ⟨j1,j2⟩:=Q4 (f:=f) xs q { st with trees:=st.trees++[t],fns:=st.fns++[(x.1.name,x.1.params)] } B k5.1 (by rw [qa];exact hs) (by unfold fW at hf |-;rw [qa];exact hf) h2 (fun y hy=>hx y (mem_cons_of_mem _ hy));rw [all_cons,hb,Bool.true_and];refine ⟨fun h=>?_,fun h=>?_⟩
   ·obtain ⟨q',l,j3,j4,j5⟩:=j1 h;refine ⟨q',t::l,fun G hG=>?_,j4,by rw [aI,k4,j5];rfl⟩;obtain ⟨G,rfl⟩:∃ g',G=g'+1:=⟨G - 1,by rw [length_cons] at hG;omega⟩;rw [qo hp k3,j3 G (by rw [length_cons] at hG;omega)];simp
   ·obtain ⟨q',dK,j3,j4⟩:=j2 h;refine ⟨q',dK,fun G hG=>?_,j4⟩;obtain ⟨G,rfl⟩:∃ g',G=g'+1:=⟨G - 1,by rw [length_cons] at hG;omega⟩;rw [qo hp k3,j3 G (by rw [length_cons] at hG;omega)]
theorem ND (G:List ah) (As:List Ar) (xs:List (Fn × List S)) (h1:b9 G=true) (h2:As.all nN=true) (h3:∀ x∈xs,Vr x) :
  ∃ ts,Tz (c8 f2 (c8 a1 (c8 g1 [] G) As) xs) 0 ts (c8 f2 (c8 a1 (c8 g1 [] G) As) xs).length /\
  (sn ts->∀ (e:Int) (g f:Nat),ts.length+1<=g->40 * ts.length+100<=f ->
   ((xs.all fun x=>ei x.2 1)=true->∃ q l,my g f ⟨ts,0,e,0,0⟩ .empty=some (q,⟨l,G,As,xs.map fun x=>(x.1.name,x.1.params)⟩)/\q.code=0/\aI l=xs.map fun x=>bA x.2) /\
   ((xs.all fun x=>ei x.2 1)=false->∃ q dK,my g f ⟨ts,0,e,0,0⟩ .empty=some (q,dK)/\q.code≠0)):=by
 have l1:=yR (f:=g1) (k:=Mq) G (fun s hs=>Wb (List.all_eq_true.1 h1 s hs)) [] [] dS.nil;have l2:=yR (f:=a1) (k:=HU) As (fun s hs=>V9 (List.all_eq_true.1 h2 s hs)) _ _ l1;have l3:=yR (f:=f2) (k:=Io) xs (fun x hx=>by obtain ⟨a,b,c⟩:=h3 x hx;exact Wa a b c) _ _ l2;obtain ⟨ts,k1,k2⟩:=l3.all;refine ⟨ts,k2,fun hs e g f hg hf=>?_⟩;rw [nil_append] at k1;obtain ⟨A,C,rfl,k3,k4⟩:=cV k1;obtain ⟨A,B,rfl,k5,k6⟩:=cV k3;have Dy:On ⟨(A++B)++C,0,e,0,0⟩ (A++(B++C)):=⟨rfl,Nat.zero_le _,by simp,k2.kinds⟩;obtain ⟨q1,j1,j2⟩:=Q5 (f:=f) G _ .empty A Dy k5 h1;obtain ⟨q2,j3,j4⟩:=Q3 (f:=f) As q1 _ B j1.1 k6 h2;have qa:q2.l=(A++B)++C:=(j1.tr j3).2.1;obtain ⟨j5,j6⟩:=Q4 (f:=f) xs q2 { ({ PS.empty with globals:=PS.empty.globals++G }:PS) with arrays:=PS.empty.arrays++As } C j3.1 (by rw [qa];exact hs) (by unfold fW;rw [qa];exact hf) k4 h3
 have c1:G.length<=A.length:=by
  have:=congrArg List.length k5;rw [length_map] at this;rw [this];clear this k5 j1 j2 j3 j4 j5 j6 qa Dy hs k1 k2 k3 l1 l2 l3 hf hg h1
  induction G with
  | nil=>exact Nat.le_refl _
  | cons s G ih=>rw [flatMap_cons,length_append,length_cons];simp only [Mq,length_cons,length_nil];omega
 have c2:As.length<=B.length:=by
  have:=congrArg List.length k6;rw [length_map] at this;rw [this];clear this k6 j1 j2 j3 j4 j5 j6 qa Dy hs k1 k2 k3 l1 l2 l3 hf hg h2
  induction As with
  | nil=>exact Nat.le_refl _
  | cons s G ih=>rw [flatMap_cons,length_append,length_cons];simp only [HU,length_cons,length_nil];omega
 have c3:xs.length<=C.length:=by
  have:=congrArg List.length k4;rw [length_map] at this;rw [this];clear this k4 j1 j2 j3 j4 j5 j6 qa Dy hs k1 k2 k3 l1 l2 l3 hf hg h3
  induction xs with
  | nil=>exact Nat.le_refl _
  | cons s G ih=>rw [flatMap_cons,length_append,length_cons];simp only [Io,length_cons];omega
 rw [length_append,length_append] at hg;have mj:∃ g',xs.length < g'/\g=g'+As.length+G.length:=⟨g - As.length - G.length,by omega,by omega⟩;obtain ⟨g',kW,rfl⟩:=mj;rw [j2,j4];refine ⟨fun h=>?_,fun h=>?_⟩
 ·obtain ⟨q,l,j7,j8,j9⟩:=j5 h;exact ⟨q,l,j7 g' kW,j8,j9⟩
 ·obtain ⟨q,dK,j7,j8⟩:=j6 h;exact ⟨q,dK,j7 g' kW,j8⟩
end Go.Im
namespace Go.Im
open Go.Xp Go.Sp
structure Cg (st:PS):Prop where
 globals:b9 st.globals=true
 arrays:st.arrays.all nN=true
 fns:∀ x∈st.fns,bf x.1=true/\b9 x.2=true
 trees:∀ t∈st.trees,BF t
 len:st.fns.length=st.trees.length
theorem zJ {a b:List ah} (h:b9 a=true) (k:b9 b=true):b9 (a++b)=true:=by
 unfold b9 at *;rw [List.all_append,h,k];rfl
theorem zK {s:ah} (h:bf s=true):b9 [s]=true:=by
 unfold b9;rw [all_cons,h];rfl
theorem Sf.len {a b:List Tok} {n:Nat} (h:Sf a b n):b.length+n<=a.length:=by
 obtain ⟨p,rfl,h⟩:=h;rw [length_append];omega
theorem II:∀ (f:Nat) (acc:List ah) (p:RS) (ts:List Tok),On p ts->qW ts->ts.length+1 < f->b9 acc=true ->
  ∃ l q,od f acc p=some (l,q)/\((∃ r n,bz p q (.ok r)/\b9 l=true/\Sf ts r n)\/q.code≠0)
 | 0,acc,p,ts,_,_,hf,_=>by omega
 | f+1,acc,p,ts,hp,ho,hf,hn=>by
  rw [od]
  by_cases hc:p.code=0/\is p 0 [41]=false
  ·rw [if_pos hc]
   have kO:(∃ r,bz p (if acc.length=0 then p else want p [44]) (.ok r)/\Sf ts r 0)\/(if acc.length=0 then p else want p [44]).code≠0:=by
    by_cases ha:acc.length=0
    ·rw [if_pos ha];exact .inl ⟨ts,On.self hp,.nil _⟩
    ·rw [if_neg ha]
     rcases lu hp (s:=[44]) (by decide) with ⟨r,h1,h2⟩ | ⟨x,h1,h2⟩
     ·exact .inl ⟨r,h2,(Sf.aE (by decide) h1).le (Nat.zero_le _)⟩
     ·exact .inr (bz.err h2)
   generalize (if acc.length=0 then p else want p [44])=p' at *
   rcases kO with ⟨r,h1,h2⟩ | h1
   ·rcases td h1.1 with ⟨r2,h3,h4⟩ | ⟨x,h3,h4⟩
    ·obtain ⟨k1,k2⟩:=Sf.name h3 (h2.ok ho);have hlen:=(h2.trans k1).len;obtain ⟨l,q,k3,k4⟩:=II f (acc++[(tok p' 0).s]) (be p') r2 h4.1 ((h2.trans k1).ok ho) (by omega) (zJ hn (zK k2));refine ⟨l,q,k3,?_⟩
     rcases k4 with ⟨r3,n,k5,k6,k7⟩ | k5
     ·exact .inl ⟨r3,_,(h1.tr h4).tr k5,k6,(h2.trans k1).trans k7⟩
     ·exact .inr k5
    ·exact ⟨_,_,yQ (bz.err h4) (by omega),.inr (bz.err h4)⟩
   ·rw [Nt h1];exact ⟨_,_,yQ h1 (by omega),.inr h1⟩
  ·rw [if_neg hc]
   rcases lu hp (s:=[41]) (by decide) with ⟨r,h1,h2⟩ | ⟨x,h1,h2⟩
   ·exact ⟨acc,_,rfl,.inl ⟨r,1,h2,hn,Sf.aE (by decide) h1⟩⟩
   ·exact ⟨acc,_,rfl,.inr (bz.err h2)⟩
theorem Uz {f:Nat} {p:RS} {st:PS} {u:Tok} {r0:List Tok} (hp:On p (u::r0)) (ho:qW (u::r0)) (hs:sn p.l) (hf:fW p<=f) (bY:Cg st) :
  ∃ q dK,iW f p st=some (q,dK)/\((∃ r n,bz p q (.ok r)/\Cg dK/\Sf (u::r0) r (n+1)/\ay dK.trees<=n+1+ay st.trees)\/q.code≠0):=by
 have p1:=nx hp;have ff:=Sf.one u r0;unfold iW
 by_cases h1:is p 0 kQ=true
 ·rw [if_pos h1]
  rcases td p1 with ⟨r1,a1,a2⟩ | ⟨x,a1,a2⟩
  ·obtain ⟨b1,b2⟩:=Sf.name a1 (ff.ok ho);have b3:=ff.trans b1;have a3:bz p (be p.next) (.ok r1):=(On.next hp).tr a2
   by_cases h2:(be p.next).code=0/\is (be p.next) 0 [91]=true
   ·rw [if_pos h2]
    have h3:sign r1 0=[91]:=by
     have:=On.is a2.1 0 (s:=[91]) (by decide);rw [h2.2] at this;simpa using this.symm
    obtain ⟨v,h4,_⟩:=tq (by decide) h3;have b4:=b3.trans (Sf.sign (by decide) h3);have p2:=a2.1;rw [h4] at p2
    have a4:bz p (be p.next).next (.ok r1.tail):=a3.tr (On.next p2)
    have p3:=nx p2
    by_cases h5:(tok (be p.next).next 0).kind=1
    ·rw [if_pos h5]
     cases hr:r1.tail with
     | nil =>
      rw [hr] at p3;have:=On.tok p3 0;rw [this] at h5;cases h5
     | cons w r3 =>
      rw [hr] at p3 a4 b4;have p4:=nx p3;have b5:=b4.trans (Sf.one w r3);have a5:=a4.tr (On.next p3);rw [pR p3] at h5;have hw:=(b4.ok ho w mem_cons_self).num h5
      rcases lu p4 (s:=[93]) (by decide) with ⟨r4,c1,c2⟩ | ⟨x,c1,c2⟩
      ·rcases lu c2.1 (s:=[59]) (by decide) with ⟨r5,d1,d2⟩ | ⟨x,d1,d2⟩
       ·refine ⟨_,_,rfl,.inl ⟨r5,0,(a5.tr c2).tr d2,⟨bY.globals,?_,bY.fns,bY.trees,bY.len⟩,((b5.trans (Sf.aE (by decide) c1)).trans (Sf.aE (by decide) d1)).le (by omega),by simp only;omega⟩⟩;simp only;rw [List.all_append,bY.arrays,all_cons,List.all_nil,Bool.and_true,Bool.true_and];unfold nN;rw [pR p3,b2];simp only [Bool.and_eq_true,Bool.not_eq_true',decide_eq_false_iff_not];exact ⟨⟨trivial,by omega⟩,by omega⟩
       ·exact ⟨_,_,rfl,.inr (bz.err d2)⟩
      ·refine ⟨_,_,rfl,.inr ?_⟩;rw [fx (bz.err c2)];exact bz.err c2
    ·rw [if_neg h5];exact ⟨_,_,rfl,.inr (bz.err (On.jH p3))⟩
   ·rw [if_neg h2]
    rcases lu a2.1 (s:=[59]) (by decide) with ⟨r4,c1,c2⟩ | ⟨x,c1,c2⟩
    ·exact ⟨_,_,rfl,.inl ⟨r4,0,a3.tr c2,⟨zJ bY.globals (zK b2),bY.arrays,bY.fns,bY.trees,bY.len⟩,(b3.trans (Sf.aE (by decide) c1)).le (by omega),by simp only;omega⟩⟩
    ·exact ⟨_,_,rfl,.inr (bz.err c2)⟩
  ·rw [if_neg (fun h=>bz.err a2 h.1),fx (bz.err a2)];exact ⟨_,_,rfl,.inr (bz.err a2)⟩
 ·rw [if_neg h1]
  by_cases h2:is p 0 l6=true
  ·rw [if_pos h2]
   rcases td p1 with ⟨r1,a1,a2⟩ | ⟨x,a1,a2⟩
   ·obtain ⟨b1,b2⟩:=Sf.name a1 (ff.ok ho);have b3:=ff.trans b1;have a3:bz p (be p.next) (.ok r1):=(On.next hp).tr a2
    rcases lu a2.1 (s:=[40]) (by decide) with ⟨r2,c1,c2⟩ | ⟨x,c1,c2⟩
    ·have b4:=b3.trans (Sf.aE (by decide) c1);have a4:=a3.tr c2;have hl:=On.len c2.1;have jh:(want (be p.next) [40]).l=p.l:=a4.2.1;obtain ⟨l,q,k1,k2⟩:=II f [] _ r2 c2.1 (b4.ok ho) (by rw [jh] at hl;unfold fW at hf;omega) rfl;rw [k1];simp only
     rcases k2 with ⟨r3,n,k3,k4,k5⟩ | k3
     ·have a5:=a4.tr k3;have qa:q.l=p.l:=a5.2.1;rw [if_pos k3.1.code];obtain ⟨t,q',k6,k7⟩:=Ux (f:=f) k3.1 (by rw [qa];exact hs) (by unfold fW at hf |-;rw [qa];exact hf);rw [k6];simp only;have b5:=b4.trans k5
      cases hb:block q.e 1 r3 with
      | error x=>rw [hb] at k7;exact ⟨_,_,rfl,.inr (bz.err k7)⟩
      | ok y =>
       obtain ⟨t',r4⟩:=y;rw [hb] at k7;obtain ⟨rfl,k7⟩:=k7;obtain ⟨k8,k9⟩:=JL (b5.ok ho) hb;refine ⟨_,_,rfl,.inl ⟨r4,n+aK t+2,a5.tr k7,⟨bY.globals,bY.arrays,?_,?_,?_⟩,(b5.trans k9).le (by omega),?_⟩⟩
       ·intro x hx
        rcases List.mem_append.1 hx with hx | hx
        ·exact bY.fns x hx
        ·rw [mem_singleton] at hx;subst hx;exact ⟨b2,k4⟩
       ·intro x hx
        rcases List.mem_append.1 hx with hx | hx
        ·exact bY.trees x hx
        ·rw [mem_singleton] at hx;subst hx;exact k8
       ·simp only [length_append,length_cons,length_nil];have:=bY.len;omega
       ·simp only [mf,ay];omega
     ·rw [if_neg k3];exact ⟨_,_,rfl,.inr k3⟩
    ·rw [yQ (bz.err c2) (by unfold fW at hf;omega)];simp only;rw [if_neg (bz.err c2)];exact ⟨_,_,rfl,.inr (bz.err c2)⟩
   ·rw [fx (bz.err a2),yQ (bz.err a2) (by unfold fW at hf;omega)];simp only;rw [if_neg (bz.err a2)];exact ⟨_,_,rfl,.inr (bz.err a2)⟩
  ·rw [if_neg h2];exact ⟨_,_,rfl,.inr (bz.err (On.jH hp))⟩
theorem IJ {f:Nat}:∀ (G:Nat) (p:RS) (st:PS) (ts:List Tok),On p ts->qW ts->sn p.l->fW p<=f->Cg st->ts.length < G ->
  ∃ q dK,my G f p st=some (q,dK)/\(q.code=0->Cg dK/\ay dK.trees<=ts.length+ay st.trees)
 | 0,p,st,ts,_,_,_,_,_,hG=>by omega
 | G+1,p,st,ts,hp,ho,hs,hf,bY,hG=>by
  cases ts with
  | nil =>
   rw [my,if_neg (fun hc=>UJ hp hc.2)];exact ⟨p,st,rfl,fun _=>⟨bY,by simp⟩⟩
  | cons u r0 =>
   obtain ⟨q,dK,h1,h2⟩:=Uz hp ho hs hf bY;rw [qo hp h1];rw [length_cons] at hG
   rcases h2 with ⟨r,n,h3,h4,h5,h6⟩ | h3
   ·have hl:=h5.len;rw [length_cons] at hl;have qa:q.l=p.l:=h3.2.1;obtain ⟨q',st2,k1,k2⟩:=IJ G q dK r h3.1 (h5.ok ho) (by rw [qa];exact hs) (by unfold fW at hf |-;rw [qa];exact hf) h4 (by omega);exact ⟨q',st2,k1,fun hc=>by obtain ⟨k3,k4⟩:=k2 hc;exact ⟨k3,by rw [length_cons];omega⟩⟩
   ·exact ⟨q,dK,IK h3 (by omega),fun hc=>absurd hc h3⟩
def ot (st:PS):List Fn:=st.fns.mapIdx fun i x=>⟨x.1,x.2,((ay (st.trees.take i):Nat):Int)⟩
def same (p:Src) (st:PS):Bool:=eU (fun x y=>x==y) p.globals st.globals&&(eU zn p.arrays st.arrays&&(eU qQ p.fns (ot st)&&eU km p.nodes (dW 0 st.trees)))
structure Reads (x:ah) (ts:List Tok) (c z:Int) (q:RS) (st:PS):Prop where
 lex:mn x (x.length+1) 0 []=some (ts,c,z)
 len:ts.length<=x.length
 read:my (ts.length+1) (40 * ts.length+100) ⟨ts,0,(x.length:Int),0,0⟩ .empty=some (q,st)
 ok:q.code=0->Cg st/\ay st.trees<=ts.length
theorem reads (x:ah):∃ ts c z q st,Reads x ts c z q st:=by
 obtain ⟨ts,c,z,h1,h2,h3,h4⟩:=rn x (x.length+1) 0 [] (Nat.zero_le _) (by omega) (fun t h=>by simp at h) .nil (fun t h=>by simp at h) (Nat.le_refl _);have Dy:On ⟨ts,0,(x.length:Int),0,0⟩ ts:=⟨rfl,Nat.zero_le _,rfl,fun t ht=>(h2 t ht).kinds⟩;obtain ⟨q,st,h5,h6⟩:=IJ (f:=40 * ts.length+100) (ts.length+1) _ .empty ts Dy h2 h3 (Nat.le_refl _) ⟨rfl,rfl,fun x h=>(by cases h),fun x h=>(by cases h),rfl⟩ (by omega);exact ⟨ts,c,z,q,st,h1,h4,h5,fun h=>by obtain ⟨a,b⟩:=h6 h;exact ⟨a,by simpa [PS.empty,ay] using b⟩⟩
structure Forms (l:List T) (ls:List (List S)):Prop where
 len:ls.length=l.length
 at_:∀ (i:Nat) t b,l[i]?=some t->ls[i]?=some b->S.cD b=true/\er t=bA b
theorem Ff:∀ (l:List T),(∀ t∈l,BF t)->∃ ls,Forms l ls
 | [],_=>⟨[],rfl,fun i t b h=>by simp at h⟩
 | t::l,h=>by
  obtain ⟨b,h1,h2⟩:=h t mem_cons_self
  obtain ⟨ls,h3⟩:=Ff l fun u hu=>h u (mem_cons_of_mem _ hu)
  refine ⟨b::ls,by simp [h3.len],fun i t' b' k1 k2=>?_⟩
  cases i with
  | zero=>cases k1;cases k2;exact ⟨h1,h2⟩
  | succ i=>exact h3.at_ i t' b' (by simpa using k1) (by simpa using k2)
theorem fm.mem {Q:Fn->T->Prop}:∀ {fns:List Fn} {a:Nat} {l:List T},fm Q fns a l->(∀ f∈fns,∃ t∈l,Q f t)/\(∀ t∈l,∃ f∈fns,Q f t)
 | [],_,[],_=>⟨fun f h=>(by cases h),fun f h=>(by cases h)⟩
 | f::r,a,t::l,h=>by
  rw [fm] at h;obtain ⟨k1,k2⟩:=fm.mem h.2.2;refine ⟨fun g hg=>?_,fun u hu=>?_⟩
  ·rcases List.mem_cons.1 hg with rfl | hg
   ·exact ⟨t,mem_cons_self,h.2.1⟩
   ·obtain ⟨u,a,b⟩:=k1 g hg;exact ⟨u,mem_cons_of_mem _ a,b⟩
  ·rcases List.mem_cons.1 hu with rfl | hu
   ·exact ⟨f,mem_cons_self,h.2.1⟩
   ·obtain ⟨g,a,b⟩:=k2 u hu;exact ⟨g,mem_cons_of_mem _ a,b⟩
 | [],_,t::l,h=>by cases h
 | f::r,_,[],h=>by cases h
theorem fD.JX {p:Src} {l:List T} (h:fD p l):∃ ls,Forms l ls:=by
 refine Ff l fun t ht=>?_
 obtain ⟨f,_,h1⟩:=(fm.mem h.fns).2 t ht;exact toB h1.all h1.kind
theorem fD.at_ {p:Src} {l:List T} (h:fD p l):lG l:=by
 have:∀ l:List T,(∀ t∈l,cS t=true)->lG l:=by
  intro l
  induction l with
  | nil=>intro _;trivial
  | cons t l ih=>intro h;rw [lG];exact ⟨Lw t (h t mem_cons_self),ih fun u hu=>h u (mem_cons_of_mem _ hu)⟩
 refine this l fun t ht=>?_
 obtain ⟨f,_,h1⟩:=(fm.mem h.fns).2 t ht;exact h1.all
theorem fD.zj {p:Src} {l:List T} (h:fD p l):gW p.nodes p.fns 0 []=some (l,p.nodes.length):=by
 rw [H2 p.fns 0 [] l h.st h.fns h.at_,h.len];simp
theorem fD.k {p:Src} {l:List T} (h:fD p l):l.all fH=true:=by
 rw [all_eq_true];intro t ht;obtain ⟨f,_,h1⟩:=(fm.mem h.fns).2 t ht;exact Qt t h1.all
theorem Mi {l:List T} {ls:List (List S)} (h:Forms l ls):aI l=ls.map bA:=by
 rw [r6];apply List.ext_getElem?;intro i;rw [getElem?_map,getElem?_map];have hl:=h.len
 cases h1:l[i]? with
 | none =>
  rw [List.getElem?_eq_none_iff] at h1;rw [List.getElem?_eq_none_iff.2 (by omega)];rfl
 | some t =>
  have hi:=(List.getElem?_eq_some_iff.1 h1).1
  have h2:ls[i]?=some (ls[i]'(by omega)):=by simp [hl,hi]
  rw [h2];exact congrArg some (h.at_ i t _ h1 h2).2
theorem zip_fst {α β:Type}:∀ (a:List α) (b:List β),a.length=b.length->(a.zip b).map Prod.fst=a
 | [],[],_=>rfl
 | x::a,y::b,h=>by rw [zip_cons_cons,List.map_cons,zip_fst a b (by simpa using h)]
 | [],y::b,h=>by simp at h
 | x::a,[],h=>by simp at h
theorem C8 {α β:Type}:∀ (a:List α) (b:List β),a.length=b.length->(a.zip b).map Prod.snd=b
 | [],[],_=>rfl
 | x::a,y::b,h=>by rw [zip_cons_cons,List.map_cons,C8 a b (by simpa using h)]
 | [],y::b,h=>by simp at h
 | x::a,[],h=>by simp at h
theorem yo (l:List T) (i:Nat):ay (l.take i)=ay ((aI l).take i):=by
 rw [r6,<-List.map_take,<-r6,vI]
theorem U4 {p:Src} {l:List T} {l':List T} {ls:List (List S)} (h:fD p l) (he:aI l'=aI l):same p ⟨l',p.globals,p.arrays,p.fns.map fun x=>(x.name,x.params)⟩=true:=by
 unfold same;simp only [Bool.and_eq_true];refine ⟨qk (fun x=>by simp) _,qk (fun x=>by simp [zn]) _,?_,?_⟩
 ·have:ot ⟨l',p.globals,p.arrays,p.fns.map fun x=>(x.name,x.params)⟩=p.fns:=by
   unfold ot;apply List.ext_getElem?;intro i;simp only [List.getElem?_mapIdx,getElem?_map]
   cases hf:p.fns[i]? with
   | none=>rfl
   | some f =>
    have hlen:=fm.len h.fns;have hi:=(List.getElem?_eq_some_iff.1 hf).1
    have ht:l[i]?=some (l[i]'(by omega)):=by simp [<-hlen,hi]
    have hb:=(fm.at_ h.fns i f _ hf ht).1;rw [Nat.zero_add,yo,<-he,<-yo] at hb;simp only [Option.map_some];rw [<-hb]
  rw [this];refine qk (fun x=>?_) _;simp [qQ,qk]
 ·rw [dm.all h.st h.len];exact Cz _ _ 0 he.symm
theorem UC {p:Src} {l:List T} {ls:List (List S)} (h:fD p l) (hf:Forms l ls):ml cE fi p l=c8 f2 (c8 a1 (c8 g1 [] p.globals) p.arrays) (p.fns.zip ls):=by
 unfold ml
 refine LJ _ _ _ _ hf.len fun i t b h1 h2=>?_
 obtain ⟨h3,h4⟩:=hf.at_ i t b h1 h2;rw [<-LC,h4];exact uR b h3 0
theorem KX {p:Src} {l:List T} {ls:List (List S)} (h:fD p l) (hf:Forms l ls) {ts:List Tok} {c z:Int} {q:RS} {st:PS} (hr:Reads (ml cE fi p l) ts c z q st) :
  c=0/\((ls.all fun b=>ei b 1)=true->q.code=0/\ay st.trees<=800/\same p st=true)/\((ls.all fun b=>ei b 1)=false->q.code≠0):=by
 have hx:=UC h hf;have hlen:=fm.len h.fns;have pB:=hf.len
 have oT:∀ x∈p.fns.zip ls,Vr x:=by
  intro x hx;obtain ⟨f,b⟩:=x;obtain ⟨i,hi⟩:=List.getElem?_of_mem hx;rw [List.getElem?_zip_eq_some] at hi;have rI:=(List.getElem?_eq_some_iff.1 hi.2).1
  have ht:l[i]?=some (l[i]'(by omega)):=by simp [<-pB,rI]
  have h1:=(fm.at_ h.fns i f _ hi.1 ht).2;exact ⟨h1.name,h1.params,(hf.at_ i _ b ht hi.2).1⟩
 obtain ⟨us,h1,h2⟩:=ND p.globals p.arrays (p.fns.zip ls) h.globals h.arrays oT;rw [<-hx] at h1;have h3:=Sh h1 rfl ((ml cE fi p l).length+1) [] (by omega);rw [nil_append,hr.lex] at h3;simp only [Option.some.injEq,Prod.mk.injEq] at h3;obtain ⟨rfl,rfl,rfl⟩:=h3
 have Yh:sn ts:=by
  obtain ⟨il,c',z',k1,k2,k3,k4⟩:=rn (ml cE fi p l) ((ml cE fi p l).length+1) 0 [] (Nat.zero_le _) (by omega) (fun t h=>by simp at h) .nil (fun t h=>by simp at h) (Nat.le_refl _);rw [hr.lex] at k1;cases k1;exact k3
 obtain ⟨h4,h5⟩:=h2 Yh ((ml cE fi p l).length:Int) (ts.length+1) (40 * ts.length+100) (Nat.le_refl _) (Nat.le_refl _)
 have aO:((p.fns.zip ls).all fun x=>ei x.2 1)=ls.all fun b=>ei b 1:=by
  have:ls=(p.fns.zip ls).map Prod.snd:=(C8 _ _ (by omega)).symm
  conv=>rhs;rw [this]
  rw [List.all_map];rfl
 rw [aO] at h4 h5;refine ⟨rfl,fun uB=>?_,fun uB=>?_⟩
 ·obtain ⟨q',l',k1,k2,k3⟩:=h4 uB;rw [hr.read] at k1;simp only [Option.some.injEq,Prod.mk.injEq] at k1;obtain ⟨rfl,rfl⟩:=k1
  have e1:((p.fns.zip ls).map fun x=>bA x.2)=ls.map bA:=by
   have:ls=(p.fns.zip ls).map Prod.snd:=(C8 _ _ (by omega)).symm
   conv=>rhs;rw [this]
   rw [map_map];rfl
  have e2:((p.fns.zip ls).map fun x=>(x.1.name,x.1.params))=p.fns.map fun x=>(x.name,x.params):=by
   have:p.fns=(p.fns.zip ls).map Prod.fst:=(zip_fst _ _ (by omega)).symm
   conv=>rhs;rw [this]
   rw [map_map];rfl
  have he:aI l'=aI l:=by rw [k3,e1,Mi hf]
  refine ⟨k2,?_,?_⟩
  ·simp only;rw [<-vI,he,vI,h.len];exact h.few
  ·rw [e2];exact U4 (ls:=ls) h he
 ·obtain ⟨q',dK,k1,k2⟩:=h5 uB;rw [hr.read] at k1;simp only [Option.some.injEq,Prod.mk.injEq] at k1;obtain ⟨rfl,rfl⟩:=k1;exact k2
theorem Ig {α:Type} {p:α->α->Bool} {a b:List α} (h:eU p a b=true) {x:α} (hx:x∈a):∃ y∈b,p x y=true:=by
 obtain ⟨i,hi⟩:=List.getElem?_of_mem hx;have hl:=yE h;have aq:=(List.getElem?_eq_some_iff.1 hi).1
 have hb:b[i]?=some (b[i]'(by omega)):=by simp [<-hl,aq]
 exact ⟨_,mem_of_getElem? hb,EO hi hb h⟩
theorem KN {p:Src} {l:List T} (hn:p.nodes.length<=800) (hb:gW p.nodes p.fns 0 []=some (l,p.nodes.length)) {st:PS} (eJ:Cg st) (hs:same p st=true):fD p l:=by
 obtain ⟨l',h1,h2,h3,h4,h5⟩:=Co _ _ _ _ _ hb;rw [nil_append] at h1;subst h1;unfold same at hs;simp only [Bool.and_eq_true] at hs;obtain ⟨s1,s2,s3,s4⟩:=hs
 have hz:ay l=p.nodes.length:=by omega
 have T0:=dm.all h2 hz;rw [T0] at s4
 have hlen:l.length=st.trees.length:=by
  have a1:=fm.len h3;have a2:=yE s3;unfold ot at a2;rw [List.length_mapIdx] at a2;have:=eJ.len;omega
 have he:=SG hlen s4
 have fG:∀ f∈p.fns,bf f.name=true/\b9 f.params=true:=by
  intro f hf;obtain ⟨g,hg,hp⟩:=Ig s3 hf;unfold ot at hg;obtain ⟨i,hi⟩:=List.getElem?_of_mem hg;rw [List.getElem?_mapIdx] at hi
  cases hx:st.fns[i]? with
  | none=>rw [hx] at hi;cases hi
  | some x =>
   rw [hx] at hi;cases hi;simp only [qQ,Bool.and_eq_true,beq_iff_eq] at hp;obtain ⟨⟨k1,k2⟩,_⟩:=hp;obtain ⟨k3,k4⟩:=eJ.fns x (mem_of_getElem? hx);rw [k1,yD k2];exact ⟨k3,k4⟩
 have W8:∀ t∈l,t.n.kind=14/\cS t=true:=by
  intro t ht
  have h6:er t∈aI l:=by rw [r6];exact List.mem_map_of_mem ht
  rw [he,r6] at h6;obtain ⟨u,hu,h7⟩:=List.mem_map.1 h6;obtain ⟨b,k1,k2⟩:=eJ.trees u hu;rw [h7] at k2
  have wV:xi t:=by
   have:∀ l:List T,lG l->t∈l->xi t:=by
    intro l
    induction l with
    | nil=>intro _ h;cases h
    | cons v l ih =>
     intro h hm;rw [lG] at h
     rcases List.mem_cons.1 hm with rfl | hm
     ·exact h.1
     ·exact ih h.2 hm
   exact this l h5 ht
  refine ⟨?_,Lx t (by rw [k2];exact S.uS b k1) wV⟩;have:=congrArg (fun x=>x.n.kind) k2;simp only [xt] at this;exact this
 refine ⟨?_,?_,h2,fm.mono h3 fun f t hf ht _=>⟨(fG f hf).1,(fG f hf).2,(W8 t ht).1,(W8 t ht).2⟩,hz,hn⟩
 ·rw [yD s1];exact eJ.globals
 ·rw [all_eq_true];intro a ha;obtain ⟨b,hb,hp⟩:=Ig s2 ha;have h6:=List.all_eq_true.1 eJ.arrays b hb;simp only [zn,Bool.and_eq_true,beq_iff_eq] at hp;unfold nN at h6 |-;rw [hp.1,hp.2];exact h6
end Go.Im
namespace Go.Im
open Go.Xp Go.Sp
def aZ {α:Type} (f:α->Nat):List α->Nat
 | []=>0
 | x::l=>f x+aZ f l
theorem A4 {α:Type} (f:α->Nat) (a b:List α):aZ f (a++b)=aZ f a+aZ f b:=by
 induction a with
 | nil=>simp [aZ]
 | cons x a ih=>simp only [cons_append,aZ,ih];omega
theorem SM {α:Type} {f g:α->Nat} {l:List α} (h:∀ x∈l,f x<=g x):aZ f l<=aZ g l:=by
 induction l with
 | nil=>exact Nat.le_refl _
 | cons x l ih =>
  have h1:=h x mem_cons_self
  have h2:=ih fun y hy=>h y (mem_cons_of_mem _ hy)
  simp only [aZ];omega
theorem na {α:Type} {f:α->Nat} {l:List α} {x:α} (h:x∈l):f x<=aZ f l:=by
 induction l with
 | nil=>cases h
 | cons y l ih =>
  rw [aZ]
  rcases List.mem_cons.1 h with rfl | h
  ·omega
  ·have:=ih h;omega
theorem mZ {α:Type} {f g:α->Nat} {k:Nat} {l:List α} (h:∀ x∈l,f x<=k * g x):aZ f l<=k * aZ g l:=by
 induction l with
 | nil=>exact Nat.zero_le _
 | cons x l ih =>
  have h1:=h x mem_cons_self
  have h2:=ih fun y hy=>h y (mem_cons_of_mem _ hy)
  simp only [aZ,Nat.mul_add];omega
theorem tB {α:Type} (f:α->Nat) (l:List α) (h:∀ x∈l,1<=f x):l.length<=aZ f l:=by
 induction l with
 | nil=>exact Nat.zero_le _
 | cons x l ih =>
  have h1:=h x mem_cons_self
  have h2:=ih fun y hy=>h y (mem_cons_of_mem _ hy)
  rw [aZ,length_cons];omega
theorem GM {α β:Type} (f:α->Nat) (g:β->Nat):∀ (a:List α) (b:List β),aZ (fun x:α × β=>f x.1+g x.2) (a.zip b)<=aZ f a+aZ g b
 | [],b=>by simp [aZ]
 | x::a,[]=>by simp [aZ]
 | x::a,y::b=>by
  have:=GM f g a b;simp only [zip_cons_cons,aZ] at *;omega
theorem vT {α:Type} (f:α->ah):∀ (l:List α) (acc:ah),(c8 f acc l).length=acc.length+aZ (fun x=>(f x).length) l
 | [],acc=>by simp [c8,aZ]
 | x::l,acc=>by rw [c8,vT f l,length_append,aZ];omega
def rT (n:Nd):Nat:=n.s.length+60
mutual
theorem Vq:∀ (t:T) (a:Nat),jm t=aZ rT (ly a t)
 | .mk n l,a=>by rw [jm,ly,aZ,zc l (a+1),rT]
theorem zc:∀ (l:List T) (a:Nat),fF l=aZ rT (dW a l)
 | [],a=>rfl
 | t::r,a=>by rw [fF,dW,A4,Vq t a,zc r (a+aK t)]
end
def wi (l:List T) (i:Nat):Nat:=match l[i]? with | some t=>jm t | none=>0
theorem Yy (l:List T):wi l 0+wi l 1+wi l 2<=fF l:=by
 match l with
 | []=>simp [wi]
 | [a]=>simp only [wi,fF];simp
 | [a,b]=>simp only [wi,fF];simp
 | a::b::c::r=>simp only [wi,fF];simp;omega
theorem Iu {l:List T} {f:T->ah} (h:∀ t∈l,(f t).length<=jm t) (i:Nat):((l.map f).getD i []).length<=wi l i:=by
 rw [List.getD_eq_getElem?_getD,getElem?_map];unfold wi
 cases hi:l[i]? with
 | none=>simp
 | some t=>exact h t (mem_of_getElem? hi)
theorem Jn {l:List T} {t:T} (h:t∈l):aK t<=ay l:=by
 induction l with
 | nil=>cases h
 | cons a l ih =>
  rw [ay]
  rcases List.mem_cons.1 h with rfl | h
  ·omega
  ·have:=ih h;omega
theorem Jl {f:T->ah}:∀ {l:List T},(∀ t∈l,(f t).length+4<=jm t)->jQ (l.map f)<=fF l
 | [],_=>Nat.zero_le _
 | t::l,h=>by
  have h1:=h t mem_cons_self
  have h2:=Jl (l:=l) fun y hy=>h y (mem_cons_of_mem _ hy)
  rw [List.map_cons,jQ,fF];omega
theorem U9:∀ (N:Nat) (t:T),aK t<=N->oE t->∀ d,(jD cE fi d t).length+4<=jm t/\(mr cE fi d t).length<=jm t:=by
 intro N
 induction N with
 | zero=>intro t h;have:=jU t;omega
 | succ N ih =>
  intro t hN hn d;have cI:=dZ t;rw [qz] at hn
  have hk:∀ a∈t.kids,∀ d,(jD cE fi d a).length+4<=jm a/\(mr cE fi d a).length<=jm a:=fun a ha d=>ih a (by have:=Jn ha;omega) (jl hn.2 ha) d
  have hx:=Iu (l:=t.kids) (f:=cE) (fun a ha=>by have:=vK (aK a) a (Nat.le_refl _) (jl hn.2 ha);omega);have hb:=Iu (l:=t.kids) (f:=mr cE fi d) (fun a ha=>(hk a ha d).2);have h3:=Yy t.kids;have hw:=oo t;have eS:=vK (aK t) t (Nat.le_refl _) ((qz t).2 hn);have x0:=hx 0;have x1:=hx 1;have b1:=hb 1;have b2:=hb 2;constructor
  ·rw [NR,H0];unfold xc;split
   ·simp only [length_append,length_cons,length_nil];omega
   split
   ·simp only [length_append,length_cons,length_nil];omega
   split
   ·simp only [length_append,length_cons,length_nil];omega
   split
   ·split
    ·simp only [length_append,length_cons,length_nil];omega
    ·simp only [length_append,length_cons,length_nil];omega
   split
   ·simp only [length_append,length_cons,length_nil];omega
   split
   ·simp only [length_append,length_cons,length_nil];omega
   split
   ·simp only [length_append,length_cons,length_nil];omega
   ·omega
  ·rw [LB,Jj]
   have:=Jl (f:=jD cE fi (d+1)) (l:=t.kids) fun a ha=>(hk a ha (d+1)).1
   have e:∀ l:List ah,(fi l d).length=3+jQ l:=fun l=>by
    unfold fi;rw [length_append,sx];simp only [length_cons,length_nil];omega
   rw [e];omega
def wS (l:List ah):Nat:=aZ (fun s=>s.length+1) l
def cM (p:Src):Nat:=wS p.globals+aZ (fun a:Ar=>a.name.length+1) p.arrays+aZ (fun f:Fn=>f.name.length+wS f.params+1) p.fns+aZ (fun n:Nd=>n.s.length+n.kids.length+1) p.nodes
structure kU (p:Src):Prop where
 arrays:∀ a∈p.arrays,-9223372036854775808<=a.size/\a.size<=9223372036854775807
 nodes:∀ n∈p.nodes,-9223372036854775808<=n.n/\n.n<=9223372036854775807
mutual
theorem eh.num {nodes:List Nd} (h:∀ n∈nodes,-9223372036854775808<=n.n/\n.n<=9223372036854775807):∀ (t:T) (a:Nat),eh nodes a t->oE t
 | .mk n l,a,hs=>by
  rw [eh] at hs;rw [oE];exact ⟨h n (mem_of_getElem? hs.1),dm.num h l _ hs.2.2⟩
theorem dm.num {nodes:List Nd} (h:∀ n∈nodes,-9223372036854775808<=n.n/\n.n<=9223372036854775807):∀ (l:List T) (a:Nat),dm nodes a l->pK l
 | [],a,_=>trivial
 | t::r,a,hs=>by
  rw [dm] at hs;rw [pK];exact ⟨eh.num h t a hs.1,dm.num h r _ hs.2⟩
end
theorem P2 (l:List ah):(l.map fun y=>y.length+2).sum=aZ (fun s=>s.length+2) l:=by
 induction l with
 | nil=>rfl
 | cons s l ih=>rw [List.map_cons,sum_cons,ih,aZ]
theorem G6 (l:List T):fF l=aZ jm l:=by
 induction l with
 | nil=>rfl
 | cons t l ih=>rw [fF,aZ,ih]
theorem Sa {p:Src} {l:List T} (hn:kU p) (hs:dm p.nodes 0 l) (hz:ay l=p.nodes.length):(ml cE fi p l).length<=100 * cM p:=by
 have gT:=dm.num hn.nodes l 0 hs
 have e1:aZ (fun s=>(g1 s).length) p.globals<=100 * wS p.globals:=mZ fun s _=>by simp only [g1,length_append,length_cons,length_nil];omega
 have e2:aZ (fun a=>(a1 a).length) p.arrays<=100 * aZ (fun a:Ar=>a.name.length+1) p.arrays:=mZ fun a ha=>by
  have:=xX (hn.arrays a ha);simp only [a1,length_append,length_cons,length_nil];omega
 have e3:aZ (fun x=>(f1 cE fi x).length) (p.fns.zip l)<=aZ (fun x:Fn × T=>(fun f:Fn=>100 * (f.name.length+wS f.params+1)) x.1+jm x.2) (p.fns.zip l):=SM fun x hx=>by
  have h1:=(U9 (aK x.2) x.2 (Nat.le_refl _) (jl gT (List.of_mem_zip hx).2) 0).2;have h2:=AV x.1.params;rw [P2] at h2
  have h3:aZ (fun s=>s.length+2) x.1.params<=2 * wS x.1.params:=mZ fun s _=>by omega
  simp only [f1,length_append,length_cons,length_nil];omega
 have e4:=GM (fun f:Fn=>100 * (f.name.length+wS f.params+1)) jm p.fns l
 have e5:aZ (fun f:Fn=>100 * (f.name.length+wS f.params+1)) p.fns<=100 * aZ (fun f:Fn=>f.name.length+wS f.params+1) p.fns:=mZ fun f _=>Nat.le_refl _
 have e6:aZ rT p.nodes<=100 * aZ (fun n:Nd=>n.s.length+n.kids.length+1) p.nodes:=mZ fun n _=>by unfold rT;omega
 have e7:aZ jm l=aZ rT p.nodes:=by rw [<-G6,zc l 0,<-dm.all hs hz]
 unfold ml cM;rw [vT,vT,vT];simp only [length_nil];have e8:=Nat.le_trans e3 e4;generalize aZ (fun x=>(f1 cE fi x).length) (p.fns.zip l)=v3 at *;generalize aZ (fun s=>(g1 s).length) p.globals=v1 at *;generalize aZ (fun a=>(a1 a).length) p.arrays=v2 at *;omega
theorem GY {p:Src} {l:List T} (hs:dm p.nodes 0 l) (hz:ay l=p.nodes.length):∀ t∈l,jm t<=100 * cM p/\aK t<=cM p:=fun t ht=>by
 have e6:aZ rT p.nodes<=100 * aZ (fun n:Nd=>n.s.length+n.kids.length+1) p.nodes:=mZ fun n _=>by unfold rT;omega
 have e7:aZ jm l=aZ rT p.nodes:=by rw [<-G6,zc l 0,<-dm.all hs hz]
 have e8:=na (f:=jm) ht;have e9:=Jn ht
 have WM:=tB (fun n:Nd=>n.s.length+n.kids.length+1) p.nodes fun n _=>by omega
 unfold cM;omega
theorem G1 (l:List ah):l.length<=wS l:=tB _ l fun s _=>by omega
theorem N7 {l:List ah} {s:ah} (h:s∈l):s.length+1<=wS l:=na (f:=fun s:ah=>s.length+1) h
structure Small (p:Src) (n:Nat):Prop where
 globals:p.globals.length<=n/\∀ s∈p.globals,s.length<=n
 arrays:p.arrays.length<=n/\∀ a∈p.arrays,a.name.length<=n
 fns:p.fns.length<=n/\∀ f∈p.fns,f.name.length<=n/\f.params.length<=n/\∀ s∈f.params,s.length<=n
 nodes:p.nodes.length<=n/\∀ x∈p.nodes,x.s.length<=n/\x.kids.length<=n
theorem cW (p:Src):Small p (cM p):=by
 have a1:=G1 p.globals
 have a2:=tB (fun a:Ar=>a.name.length+1) p.arrays fun a _=>by omega
 have a3:=tB (fun f:Fn=>f.name.length+wS f.params+1) p.fns fun a _=>by omega
 have a4:=tB (fun n:Nd=>n.s.length+n.kids.length+1) p.nodes fun a _=>by omega
 unfold cM;refine ⟨⟨by omega,fun s hs=>?_⟩,⟨by omega,fun a ha=>?_⟩,⟨by omega,fun f hf=>?_⟩,⟨by omega,fun n hn=>?_⟩⟩
 ·have:=N7 hs;omega
 ·have:=na (f:=fun a:Ar=>a.name.length+1) ha;omega
 ·have:=na (f:=fun f:Fn=>f.name.length+wS f.params+1) hf;refine ⟨by omega,by have:=G1 f.params;omega,fun s hs=>by have:=N7 hs;omega⟩
 ·have:=na (f:=fun n:Nd=>n.s.length+n.kids.length+1) hn;exact ⟨by omega,by omega⟩
structure zX (st:PS) (n:Nat):Prop where
 globals:st.globals.length<=n
 arrays:st.arrays.length<=n
 fns:st.fns.length<=n
 params:∀ x∈st.fns,x.2.length<=n
theorem MZ:∀ (f:Nat) (acc:List ah) (p:RS) (l:List ah) (q:RS),od f acc p=some (l,q)->l.length<=acc.length+f
 | 0,_,_,_,_,h=>by cases h
 | f+1,acc,p,l,q,h=>by
  rw [od] at h;split at h
  ·have:=MZ f _ _ l q h;rw [length_append,length_cons,length_nil] at this;omega
  ·cases h;omega
theorem zX.up {st:PS} {n:Nat} (h:zX st n):zX st (n+1):=by
 obtain ⟨a,b,c,d⟩:=h;exact ⟨by omega,by omega,by omega,fun x hx=>by have:=d x hx;omega⟩
theorem V1 {f n:Nat} {p q:RS} {st dK:PS} (hf:f<=n) (h:iW f p st=some (q,dK)) (hs:zX st n):zX dK (n+1):=by
 have key:=hs.up;obtain ⟨a,b,c,d⟩:=hs;unfold iW at h;split at h
 ·split at h
  ·split at h
   ·cases h;exact ⟨by simp;omega,by simp;omega,by simp;omega,fun x hx=>by have:=d x hx;omega⟩
   ·cases h;exact key
  ·cases h;exact ⟨by simp;omega,by simp;omega,by simp;omega,fun x hx=>by have:=d x hx;omega⟩
 ·split at h
  ·cases hm:od f [] (want (be p.next) [40]) with
   | none=>rw [hm] at h;cases h
   | some r =>
    obtain ⟨l,q1⟩:=r;rw [hm] at h;simp only at h;have hl:=MZ _ _ _ _ _ hm;split at h
    ·split at h
     ·cases h
     ·cases h;refine ⟨by simp;omega,by simp;omega,by simp;omega,fun x hx=>?_⟩
      rcases List.mem_append.1 hx with hx | hx
      ·have:=d x hx;omega
      ·rw [mem_singleton] at hx;subst hx;simp at hl |-;omega
    ·cases h;exact key
  ·cases h;exact key
theorem M1 {f:Nat}:∀ (G n:Nat) (p q:RS) (st dK:PS),f<=n->my G f p st=some (q,dK)->zX st n->zX dK (n+G)
 | 0,n,p,q,st,dK,_,h,_=>by cases h
 | G+1,n,p,q,st,dK,hf,h,hs=>by
  rw [my] at h;split at h
  ·cases hw:iW f p st with
   | none=>rw [hw] at h;cases h
   | some r =>
    obtain ⟨q1,s1⟩:=r;rw [hw] at h;simp only at h;have:=M1 G (n+1) q1 q s1 dK (by omega) h (V1 hf hw hs);rw [show n+(G+1)=n+1+G by omega];exact this
  ·cases h;obtain ⟨a,b,c,d⟩:=hs;exact ⟨by omega,by omega,by omega,fun x hx=>by have:=d x hx;omega⟩
mutual
theorem OR:∀ (t:T) (a:Nat),∀ n∈ly a t,n.kids.length<=aK t
 | .mk m l,a,n,h=>by
  rw [ly] at h;rw [aK]
  rcases List.mem_cons.1 h with rfl | h
  ·simp only [dQ];have:=b7 l;omega
  ·have:=AE l (a+1) n h;omega
theorem AE:∀ (l:List T) (a:Nat),∀ n∈dW a l,n.kids.length<=ay l
 | [],a,n,h=>by rw [dW] at h;cases h
 | t::r,a,n,h=>by
  rw [dW] at h;rw [ay]
  rcases List.mem_append.1 h with h | h
  ·have:=OR t a n h;omega
  ·have:=AE r _ n h;omega
end
end Go.Im
namespace Go.Sp
open Go.Xp
structure Eu (p:Src) (ls:List (List S)):Prop where
 len:ls.length=p.fns.length
 at_:∀ (i:Nat) f l,p.fns[i]?=some f->ls[i]?=some l->0<=f.body/\S.cD l=true/\wt (bA l)<=1000000000/\∃ t,sub p.nodes (fN p.nodes) f.body.toNat=some t/\er t=bA l
theorem Sr (a:E) (ho:a.ok=true):(a.txt).length+4<=wt a.tree:=(E.len a ho).1
theorem RC {l:List S} (ho:S.cD l=true) (hw:wt (bA l)<=1000000000) :
  ∃ ts t q f,Go.Sp.ic (eM E.txt l)=some ts/\(eM E.txt l).length<=1000000000/\ts.length<=1000000000/\1+f<=1099511627776/\mS f (.block 1) ⟨ts,0,(eM E.txt l).length,0,0⟩=some (t,q)/\q.l=ts/\((q.code=0/\q.i=ts.length/\ei l 1=true)\/(q.code≠0/\ei l 1=false)):=by
 have hlen:=rY E.txt Sr ho;generalize hx:eM E.txt l=x at *;obtain ⟨ts,h1,h2⟩:=(I0 ho).all;rw [hx] at h2;have h3:=h2.len;have Dy:On ⟨ts,0,x.length,0,0⟩ ts:=⟨rfl,Nat.zero_le _,rfl,h2.kinds⟩;have bK:rs (x.length:Int) (lU ts) (.block 1) ts≠.error aR:=vP;obtain ⟨t,q,h4,h5⟩:=(js (lU ts)).block 1 ts _ Dy bK;have Ug:=EH (e:=(x.length:Int)) (d:=1) (rest:=[]) ho h1;rw [append_nil] at Ug
 change iy _ q t (block (x.length:Int) 1 ts) at h5
 refine ⟨ts,t,q,KF (lU ts),h2.all,by omega,by omega,by unfold KF lU;omega,h4 _ (Nat.le_refl _),?_⟩
 cases hf:ei l 1 with
 | true =>
  obtain ⟨t',_,h6⟩:=Ug.1 hf;rw [h6] at h5;obtain ⟨_,h7,h8,_⟩:=h5;have h8:q.l=ts:=h8;refine ⟨h8,.inl ⟨h7.code,?_,rfl⟩⟩;have hr:=congrArg List.length h7.rest;have hle:=h7.le;rw [length_drop] at hr;rw [h8] at hr hle;simp only [length_nil] at hr;omega
 | false =>
  obtain ⟨pos,h6⟩:=Ug.2 hf;rw [h6] at h5;exact ⟨h5.2.2.2.1,.inr ⟨bz.err h5,rfl⟩⟩
end Go.Sp
namespace Go.Im
open Go.Xp Go.Sp
def KM (p:Src) (x:ah):Bool:=match mn x (x.length+1) 0 [] with
 | none=>false
 | some (ts,c,z)=>if c≠0 then false else match my (ts.length+1) (40 * ts.length+100) ⟨ts,0,(x.length:Int),0,0⟩ .empty with
  | none=>false
  | some (q,st)=>if q.code≠0 then false else if ay st.trees > 800 then false else same p st
def fI (p:Src):Bool:=if p.nodes.length > 800 then false else match gW p.nodes p.fns 0 [] with
 | none=>false
 | some (l,e)=>if e≠p.nodes.length then false else if l.all fH=false then false else KM p (ml cE fi p l)
theorem A0 {p:Src} {x:ah} {ts:List Tok} {c z:Int} {q:RS} {st:PS} (h:Reads x ts c z q st):KM p x=if c≠0 then false else if q.code≠0 then false else if ay st.trees > 800 then false else same p st:=by
 unfold KM;rw [h.lex];simp only;rw [h.read]
theorem XF {p:Src} {l:List T} {ls:List (List S)} (h:fD p l) (hf:Forms l ls):fI p=ls.all fun b=>ei b 1:=by
 unfold fI;have h8:=h.few;rw [if_neg (by omega),h.zj];simp only;rw [if_neg (by simp),if_neg (by rw [h.k];decide)];obtain ⟨ts,c,z,q,st,hr⟩:=reads (ml cE fi p l);obtain ⟨h1,h2,h3⟩:=KX h hf hr;rw [A0 hr,if_neg (by simpa using h1)]
 cases hb:ls.all fun b=>ei b 1 with
 | false=>rw [if_pos (h3 hb)]
 | true =>
  obtain ⟨k1,k2,k3⟩:=h2 hb;rw [if_neg (by simpa using k1),if_neg (by omega),k3]
theorem qZ {p:Src} (h:fI p=true):∃ l,fD p l:=by
 unfold fI at h
 by_cases h8:p.nodes.length > 800
 ·rw [if_pos h8] at h;cases h
 rw [if_neg h8] at h
 cases hb:gW p.nodes p.fns 0 [] with
 | none=>rw [hb] at h;cases h
 | some y =>
  obtain ⟨l,e⟩:=y;rw [hb] at h;simp only at h
  by_cases he:e=p.nodes.length
  ·subst he;rw [if_neg (by simp)] at h
   by_cases hk:l.all fH=false
   ·rw [if_pos hk] at h;cases h
   rw [if_neg hk] at h;obtain ⟨ts,c,z,q,st,hr⟩:=reads (ml cE fi p l);rw [A0 hr] at h;split at h
   ·cases h
   split at h
   ·cases h
   ·rename_i hc;split at h
    ·cases h
    ·exact ⟨l,KN (by omega) hb (hr.ok (by simpa using hc)).1 h⟩
  ·rw [if_pos he] at h;cases h
theorem XE {p:Src} (h:nC p=some false):fI p=false:=by
 cases hf:fI p with
 | false=>rfl
 | true =>
  obtain ⟨l,h1⟩:=qZ hf;rw [h1.nC] at h;cases h
theorem dm.ix {nodes:List Nd}:∀ (l:List T) (a i:Nat) (t:T),dm nodes a l->l[i]?=some t->eh nodes (a+ay (l.take i)) t
 | [],a,i,t,_,h=>by simp at h
 | u::r,a,0,t,h,hi=>by
  cases hi;rw [dm] at h;exact h.1
 | u::r,a,i+1,t,h,hi=>by
  rw [dm] at h;have:=dm.ix r (a+aK u) i t h.2 (by simpa using hi);rw [take_succ_cons,ay,<-Nat.add_assoc];exact this
mutual
theorem Om:∀ t:T,wt t<=jm t
 | .mk n l=>by have:=G7 l;rw [wt,jm];omega
theorem G7:∀ l:List T,ew l<=fF l
 | []=>Nat.le_refl _
 | t::r=>by have:=Om t;have:=G7 r;rw [ew,fF];omega
end
theorem LD {p:Src} {l:List T} {ls:List (List S)} (h:fD p l) (hf:Forms l ls) (hw:cM p<=1048576):Eu p ls:=by
 have hl:=fm.len h.fns;refine ⟨by rw [hf.len];omega,fun i f b h1 h2=>?_⟩;have hi:=(List.getElem?_eq_some_iff.1 h2).1;have hlen:=hf.len
 have ht:l[i]?=some (l[i]'(by omega)):=by simp [<-hlen,hi]
 obtain ⟨h3,h4⟩:=hf.at_ i _ b ht h2;obtain ⟨h5,h6⟩:=fm.at_ h.fns i f _ h1 ht;have h7:=dm.ix l 0 i _ h.st ht;rw [Nat.zero_add] at h5 h7;have hm:=mem_of_getElem? ht;have h8:=GY h.st h.len _ hm;have h9:=Om (l[i]'(by omega));have kL:=eh.le _ _ h7;refine ⟨by omega,h3,by rw [<-h4,Rr];omega,_,?_,h4⟩;rw [h5,Int.toNat_natCast];exact (vH _).1 _ _ h7 (by unfold fN;omega)
theorem nc {α:Type} (f:α->Nat) (l:List α) (k:Nat):aZ f (l.take k)<=aZ f l:=by
 have:aZ f l=aZ f (l.take k)+aZ f (l.drop k):=by rw [<-A4,take_append_drop]
 omega
structure aaf (p:Src) (i:Nat) (u:T) (a:E):Prop where
 ok:a.ok=true
 er:er u=a.tree
 sub:sub p.nodes (fN p.nodes) i=some u
 tr:∃ e,nL p.nodes (p.nodes.length - i+1) i=some (u,e)
 k:fH u=true
 num:oE u
 wt:jm u<=100 * cM p
 txt:cE u=a.txt
end Go.Im
namespace Go.Im
open Go.Xp Go.Sp
end Go.Im
namespace Go.Im
open Go.Xp Go.Sp
def rK (w left:Nat):Int:=if w<=left then ((left - w:Nat):Int) else -1
theorem fc {w left:Nat} (h:w<=left):rK w left=((left - w:Nat):Int):=by unfold rK;rw [if_pos h]
theorem c7 {w left:Nat} (h:left < w):rK w left = -1:=by unfold rK;rw [if_neg (by omega)]
theorem nb {α:Type} (w:α->Nat) (l:List α):aZ (fun x=>w x+1) l=l.length+aZ w l:=by
 induction l with
 | nil=>rfl
 | cons x l ih=>rw [aZ,ih,aZ,length_cons];omega
theorem kp {α:Type} {w:α->Nat} {l:List α} {k:Nat} {x:α} (h:l[k]?=some x):aZ w (l.take (k+1))=aZ w (l.take k)+w x:=by
 have:l.take (k+1)=l.take k++[x]:=by rw [List.take_add_one,h];rfl
 rw [this,A4,aZ,aZ];rfl
theorem kC {α β:Type} {f:α->β} {l:List α} {k:Nat} {x:α} {Z:β} (h:l[k]?=some x):((l.take k).map f++List.replicate (l.length - k) Z).set k (f x)=(l.take (k+1)).map f++List.replicate (l.length - (k+1)) Z:=by
 have hk:=(List.getElem?_eq_some_iff.1 h).1
 have ht:l.take (k+1)=l.take k++[x]:=by rw [List.take_add_one,h];rfl
 have hl:((l.take k).map f).length=k:=by rw [length_map,length_take];omega
 rw [show l.length - k=(l.length - (k+1))+1 by omega,List.replicate_succ,List.set_append_right _ _ (by omega),hl,Nat.sub_self,List.set_cons_zero,ht,List.map_append];simp
theorem kB {α β:Type} {f:α->β} {l:List α} {k:Nat} {Z:β} (h:k<=l.length):((l.take k).map f++List.replicate (l.length - k) Z).length=l.length:=by
 rw [length_append,length_map,length_take,List.length_replicate];omega
theorem kA {α β:Type} {f:α->β} {l:List α} {Z:β}:(l.take l.length).map f++List.replicate (l.length - l.length) Z=l.map f:=by
 rw [List.take_length,Nat.sub_self];simp
end Go.Im
namespace Go.Im
open Go.Xp Go.Sp
end Go.Im
namespace Go.Im
open Go.Xp Go.Sp
theorem Dd {p:Src} {l:List T} (h:fD p l):∀ a∈p.arrays,0<=a.size/\a.size<=2147483647:=fun a ha=>by
 have:=List.all_eq_true.1 h.arrays a ha;unfold nN at this;simp only [Bool.and_eq_true,Bool.not_eq_true',decide_eq_false_iff_not] at this;omega
end Go.Im
namespace Go.Im
open Go.Xp Go.Sp
end Go.Im
namespace Go.Im
open Go.Xp Go.Sp
end Go.Im
