/- Part 2 of proofs that are told in their last texts. -/
import Derived.Test.YtcoplmnahnipiaaGreatDoorO1
open List (all_cons all_eq_true any_eq_true append_assoc append_nil cons_append contains_iff_mem drop_left eq_nil_of_length_eq_zero find?_eq_none flatMap_cons foldl_cons getElem?_map getElem?_take length_append length_cons length_drop length_map length_nil length_take map_map mem_cons_of_mem mem_cons_self mem_of_getElem? mem_singleton nil_append sum_cons tail_cons take_append_drop take_succ_cons take_zero zip_cons_cons)
set_option linter.unusedVariables false
set_option linter.unusedSimpArgs false
set_option maxRecDepth 100000
namespace Go.Xp
open Go.Sp (bs eA)
section
variable {e:Int} {d:Nat} {ts rest:List Tok} {Q:T->Prop} {b:Bool}
theorem S.head {s:S} (ho:s.ok=true) (ht:ts.map kf=s.tk):∃ t r,ts=t::r/\∀ rest,sign (t::rest) 0≠ei/\sign (t::rest) 0≠[125]:=by
 cases s with
 | set s a =>
  rw [S.tk] at ht;obtain ⟨t,r,rfl,h1,_⟩:=map_cons ht;obtain ⟨h1,_⟩:=pP h1;exact ⟨t,r,rfl,fun rest=>⟨iy h1 av,iy h1 av⟩⟩
 | put s a b =>
  rw [S.tk] at ht;obtain ⟨t,r,rfl,h1,_⟩:=map_cons ht;obtain ⟨h1,_⟩:=pP h1;exact ⟨t,r,rfl,fun rest=>⟨iy h1 av,iy h1 av⟩⟩
 | if1 c b =>
  rw [S.tk] at ht;obtain ⟨t,r,rfl,h1,_⟩:=map_cons ht;exact ⟨t,r,rfl,fun rest=>by rw [sq h1];decide⟩
 | if2 c b b2 =>
  rw [S.tk] at ht;obtain ⟨t,r,rfl,h1,_⟩:=map_cons ht;exact ⟨t,r,rfl,fun rest=>by rw [sq h1];decide⟩
 | while_ c b =>
  rw [S.tk] at ht;obtain ⟨t,r,rfl,h1,_⟩:=map_cons ht;exact ⟨t,r,rfl,fun rest=>by rw [sq h1];decide⟩
 | ret a =>
  rw [S.tk] at ht;obtain ⟨t,r,rfl,h1,_⟩:=map_cons ht;exact ⟨t,r,rfl,fun rest=>by rw [sq h1];decide⟩
 | var s a =>
  rw [S.tk] at ht;obtain ⟨t,r,rfl,h1,_⟩:=map_cons ht;exact ⟨t,r,rfl,fun rest=>by rw [sq h1];decide⟩
 | do_ a =>
  simp only [S.ok] at ho;obtain ⟨k0,r0,hh,hf⟩:=E.head a ho;rw [S.tk,hh] at ht;obtain ⟨t,r,rfl,h1,_⟩:=map_cons ht;refine ⟨t,r,rfl,fun rest=>?_⟩
  rcases zK (r:=rest) (by rw [h1];exact hf) with h | h | h | h | h <;> (rw [h];decide)
def qN (l:List S):Prop:=∀ (e:Int) (d:Nat) (acc:List T) (ts rest:List Tok) (u:Tok),S.cM l=true->ts.map kf=S.mF l->u.kind=3->u.s=[125] ->
 (S.fits l d=true->∃ ys,aP ys=S.trees l/\Eb e d acc (ts++u::rest) (.ok (acc++ys,rest)))/\(S.fits l d=false->∃ pos,Eb e d acc (ts++u::rest) (.error (9,pos)))
theorem LQ:qN []:=by
 intro e d acc ts rest u _ ht hu fx
 have:ts=[]:=by simpa [S.mF] using ht
 subst this;refine ⟨fun _=>⟨[],rfl,1,fun f hf=>?_⟩,fun h=>by simp [S.fits] at h⟩;obtain ⟨f,rfl⟩:∃ g,f=g+1:=⟨f - 1,by omega⟩;rw [rs.body,if_pos (by exact tw hu fx),append_nil];rfl
theorem Jz {a:S} {l:List S} (Ca:qO a) (Cl:qN l):qN (a::l):=by
 intro e d acc ts rest u ho ht hu fx;simp only [S.cM,Bool.and_eq_true] at ho;rw [S.mF] at ht;obtain ⟨A,B,rfl,h3,h4⟩:=da ht;obtain ⟨t,r,rfl,hh⟩:=S.head ho.1 h3
 have bJ:sign (B++u::rest) 0≠ei:=by
  cases l with
  | nil =>
   have:B=[]:=by simpa [S.mF] using h4
   subst this;rw [nil_append,tw hu fx];decide
  | cons a' l' =>
   simp only [S.cM,Bool.and_eq_true] at ho;rw [S.mF] at h4;obtain ⟨A',B',rfl,h5,h6⟩:=da h4;obtain ⟨t',r',rfl,hh'⟩:=S.head ho.2.1 h5;exact (hh' _).1
 have hx:=Ca e d (t::r) (B++u::rest) ho.1 h3 bJ
 have he:t::r++B++u::rest=t::r++(B++u::rest):=by simp
 have hs:sign (t::r++(B++u::rest)) 0≠[125]:=(hh _).2;rw [he,S.fits]
 cases hfa:a.fit d with
 | false =>
  refine ⟨fun hb=>(by simp at hb),fun _=>?_⟩;obtain ⟨pos,f0,h0⟩:=hx.2 hfa;refine ⟨pos,f0+1,fun f hf=>?_⟩;obtain ⟨f,rfl⟩:∃ g,f=g+1:=⟨f - 1,by omega⟩;rw [rs.body,if_neg hs,h0 f aq]
 | true =>
  obtain ⟨ta,k1,f0,h0⟩:=hx.1 hfa;have hl:=Cl e d (acc++[ta]) B rest u ho.2 h4 hu fx;refine ⟨fun hb=>?_,fun hb=>?_⟩
  ·obtain ⟨ys,k3,f1,k4⟩:=hl.1 (by simpa using hb);refine ⟨ta::ys,by rw [aP,k1,k3,S.trees],f0+f1+1,fun f hf=>?_⟩;obtain ⟨f,rfl⟩:∃ g,f=g+1:=⟨f - 1,by omega⟩;rw [rs.body,if_neg hs,h0 f aq];simp only;rw [k4 f aq,append_assoc];rfl
  ·obtain ⟨pos,f1,k3⟩:=hl.2 (by simpa using hb);refine ⟨pos,f0+f1+1,fun f hf=>?_⟩;obtain ⟨f,rfl⟩:∃ g,f=g+1:=⟨f - 1,by omega⟩;rw [rs.body,if_neg hs,h0 f aq];exact k3 f aq
theorem qN.blk {l:List S} (C:qN l) {A:List Tok} {u w:Tok} (ho:S.cM l=true) (ht:A.map kf=S.mF l) (hu:u.kind=3) (fx:u.s=[123]) (hw:w.kind=3) (Dg:w.s=[125]) :
  Sx e (.block d) (u::(A++w::rest)) rest (fun t=>er t=.mk ⟨14,0,0,[],[]⟩ (S.trees l)) (decide (d<=60)&&S.fits l (d+1)):=by
 have hb:=C e (d+1) [] A rest w ho ht hw Dg
 by_cases hd:d<=60
 ·have:(decide (d<=60)&&S.fits l (d+1))=S.fits l (d+1):=by simp [hd]
  rw [this];refine ⟨fun h=>?_,fun h=>?_⟩
  ·obtain ⟨ys,k1,f0,h0⟩:=hb.1 h;refine ⟨one 14 u.at_ [] ys,by show er _=_;rw [dF,k1],f0+1,fun f hf=>?_⟩;obtain ⟨f,rfl⟩:∃ g,f=g+1:=⟨f - 1,by omega⟩;rw [rs,if_neg aq,qz hu fx];simp only;rw [h0 f aq];rfl
  ·obtain ⟨pos,f0,h0⟩:=hb.2 h;refine ⟨pos,f0+1,fun f hf=>?_⟩;obtain ⟨f,rfl⟩:∃ g,f=g+1:=⟨f - 1,by omega⟩;rw [rs,if_neg aq,qz hu fx];simp only;rw [h0 f aq]
 ·have:(decide (d<=60)&&S.fits l (d+1))=false:=by simp [hd]
  rw [this];exact ⟨fun hb=>(by cases hb),fun _=>⟨_,rL fun f=>by rw [rs,if_pos aq]⟩⟩
theorem xn {j:qo} {x:Rd T} {iI:List Tok} {j':qo} {x':Rd T} (h:Es e j ts x) (hs:∀ f,rs e f j ts=x->rs e (f+1) j' iI=x'):Es e j' iI x':=by
 obtain ⟨f0,h0⟩:=h;refine ⟨f0+1,fun f hf=>?_⟩;obtain ⟨f,rfl⟩:∃ g,f=g+1:=⟨f - 1,by omega⟩;exact hs f (h0 f aq)
theorem HT {j j2:qo} {x x2:Rd T} {iI vE:List Tok} {j':qo} {x':Rd T} (h:Es e j ts x) (h2:Es e j2 vE x2) (hs:∀ f,rs e f j ts=x->rs e f j2 vE=x2->rs e (f+1) j' iI=x'):Es e j' iI x':=by
 obtain ⟨f0,h0⟩:=h;obtain ⟨f1,h1⟩:=h2;refine ⟨f0+f1+1,fun f hf=>?_⟩;obtain ⟨f,rfl⟩:∃ g,f=g+1:=⟨f - 1,by omega⟩;exact hs f (h0 f aq) (h1 f aq)
theorem OS (c:E) {l:List S} (C:qN l):qO (.if1 c l):=by
 intro e d ts rest ho ht eW;simp only [S.ok,Bool.and_eq_true] at ho;rw [S.tk] at ht;obtain ⟨v,r,rfl,h1,h2⟩:=map_cons ht;obtain ⟨u,r,rfl,h3,h4⟩:=map_cons h2;obtain ⟨A,r,rfl,h5,h6⟩:=da h4;obtain ⟨w,r,rfl,h7,h8⟩:=map_cons h6;obtain ⟨x,r,rfl,h9,lj⟩:=map_cons h8;obtain ⟨B,r,rfl,oB,n5⟩:=da lj;obtain ⟨y,rfl,eK⟩:=gP n5;obtain ⟨h1,cI⟩:=dV h1;obtain ⟨h3,kh⟩:=dV h3;obtain ⟨h7,kC⟩:=dV h7;obtain ⟨h9,C3⟩:=dV h9;obtain ⟨eK,zP⟩:=dV eK
 have he:v::u::(A++w::x::(B++[y]))++rest=v::u::(A++w::(x::(B++y::rest))):=by simp
 have hi:=vd (e:=e) (d:=d+1) (rest:=x::(B++y::rest)) ho.1 h5 h3 kh h7 kC (by simp);have hb:=C.blk (e:=e) (d:=d+1) (rest:=rest) ho.2 oB h9 C3 eK zP;have hv:=tw (rest:=u::(A++w::(x::(B++y::rest)))) h1 cI;rw [he,S.fit]
 refine pz fun hd=>?_
 cases hfa:pG c (d+1) with
 | false =>
  refine ⟨fun hb=>(by simp at hb),fun _=>?_⟩;obtain ⟨pos,k1⟩:=hi.2 hfa;refine ⟨pos,rL fun f=>?_⟩;rw [rs,if_neg aq];simp only;rw [if_neg (by rw [hv];decide),if_pos (.inl hv),tail_cons,k1]
 | true =>
  obtain ⟨tc,k1,k2⟩:=hi.1 hfa;rw [Bool.true_and];refine ⟨fun h=>?_,fun h=>?_⟩
  ·obtain ⟨tb,k3,k4⟩:=hb.1 h;refine ⟨one 9 v.at_ [] [tc,tb],by show er _=_;rw [dF,aP,aP,k1,k3,S.tree];rfl,xn k4 fun f k4=>?_⟩;rw [rs,if_neg aq];simp only;rw [if_neg (by rw [hv];decide),if_pos (.inl hv),tail_cons,k2];simp only;rw [k4];simp only;rw [if_pos hv,if_neg eW];rfl
  ·obtain ⟨pos,k3⟩:=hb.2 h;refine ⟨pos,xn k3 fun f k3=>?_⟩;rw [rs,if_neg aq];simp only;rw [if_neg (by rw [hv];decide),if_pos (.inl hv),tail_cons,k2];simp only;rw [k3]
theorem JB (c:E) {l:List S} (C:qN l):qO (.while_ c l):=by
 intro e d ts rest ho ht eW;simp only [S.ok,Bool.and_eq_true] at ho;rw [S.tk] at ht;obtain ⟨v,r,rfl,h1,h2⟩:=map_cons ht;obtain ⟨u,r,rfl,h3,h4⟩:=map_cons h2;obtain ⟨A,r,rfl,h5,h6⟩:=da h4;obtain ⟨w,r,rfl,h7,h8⟩:=map_cons h6;obtain ⟨x,r,rfl,h9,lj⟩:=map_cons h8;obtain ⟨B,r,rfl,oB,n5⟩:=da lj;obtain ⟨y,rfl,eK⟩:=gP n5;obtain ⟨h1,cI⟩:=dV h1;obtain ⟨h3,kh⟩:=dV h3;obtain ⟨h7,kC⟩:=dV h7;obtain ⟨h9,C3⟩:=dV h9;obtain ⟨eK,zP⟩:=dV eK
 have he:v::u::(A++w::x::(B++[y]))++rest=v::u::(A++w::(x::(B++y::rest))):=by simp
 have hi:=vd (e:=e) (d:=d+1) (rest:=x::(B++y::rest)) ho.1 h5 h3 kh h7 kC (by simp);have hb:=C.blk (e:=e) (d:=d+1) (rest:=rest) ho.2 oB h9 C3 eK zP;have hv:=tw (rest:=u::(A++w::(x::(B++y::rest)))) h1 cI;rw [he,S.fit]
 refine pz fun hd=>?_
 cases hfa:pG c (d+1) with
 | false =>
  refine ⟨fun hb=>(by simp at hb),fun _=>?_⟩;obtain ⟨pos,k1⟩:=hi.2 hfa;refine ⟨pos,rL fun f=>?_⟩;rw [rs,if_neg aq];simp only;rw [if_neg (by rw [hv];decide),if_pos (.inr hv),tail_cons,k1]
 | true =>
  obtain ⟨tc,k1,k2⟩:=hi.1 hfa;rw [Bool.true_and];refine ⟨fun h=>?_,fun h=>?_⟩
  ·obtain ⟨tb,k3,k4⟩:=hb.1 h;refine ⟨one 10 v.at_ [] [tc,tb],by show er _=_;rw [dF,aP,aP,k1,k3,S.tree];rfl,xn k4 fun f k4=>?_⟩;rw [rs,if_neg aq];simp only;rw [if_neg (by rw [hv];decide),if_pos (.inr hv),tail_cons,k2];simp only;rw [k4];simp only;rw [if_neg (by rw [hv];decide)];rfl
  ·obtain ⟨pos,k3⟩:=hb.2 h;refine ⟨pos,xn k3 fun f k3=>?_⟩;rw [rs,if_neg aq];simp only;rw [if_neg (by rw [hv];decide),if_pos (.inr hv),tail_cons,k2];simp only;rw [k3]
theorem OT (c:E) {l l2:List S} (C:qN l) (C2:qN l2):qO (.if2 c l l2):=by
 intro e d ts rest ho ht eW;simp only [S.ok,Bool.and_eq_true] at ho;rw [S.tk] at ht;obtain ⟨v,r,rfl,h1,h2⟩:=map_cons ht;obtain ⟨u,r,rfl,h3,h4⟩:=map_cons h2;obtain ⟨A,r,rfl,h5,h6⟩:=da h4;obtain ⟨w,r,rfl,h7,h8⟩:=map_cons h6;obtain ⟨x,r,rfl,h9,lj⟩:=map_cons h8;obtain ⟨B,r,rfl,oB,n5⟩:=da lj;obtain ⟨y,r,rfl,eK,AN⟩:=map_cons n5;obtain ⟨z,r,rfl,Ub,h16⟩:=map_cons AN;obtain ⟨x2,r,rfl,Uc,h18⟩:=map_cons h16;obtain ⟨B2,r,rfl,h19,h20⟩:=da h18;obtain ⟨y2,rfl,H7⟩:=gP h20;obtain ⟨h1,cI⟩:=dV h1;obtain ⟨h3,kh⟩:=dV h3;obtain ⟨h7,kC⟩:=dV h7;obtain ⟨h9,C3⟩:=dV h9;obtain ⟨eK,zP⟩:=dV eK;obtain ⟨Ub,YO⟩:=dV Ub;obtain ⟨Uc,YP⟩:=dV Uc;obtain ⟨H7,YR⟩:=dV H7
 have he:v::u::(A++w::x::(B++y::z::x2::(B2++[y2])))++rest=v::u::(A++w::(x::(B++y::(z::(x2::(B2++y2::rest)))))):=by simp
 have hi:=vd (e:=e) (d:=d+1) (rest:=x::(B++y::(z::(x2::(B2++y2::rest))))) ho.1 h5 h3 kh h7 kC (by simp);have hb:=C.blk (e:=e) (d:=d+1) (rest:=z::(x2::(B2++y2::rest))) ho.2.1 oB h9 C3 eK zP;have eL:=C2.blk (e:=e) (d:=d+1) (rest:=rest) ho.2.2 h19 Uc YP H7 YR;have hv:=tw (rest:=u::(A++w::(x::(B++y::(z::(x2::(B2++y2::rest))))))) h1 cI;have hz:=tw (rest:=x2::(B2++y2::rest)) Ub YO;rw [he,S.fit]
 refine pz fun hd=>?_
 cases hfa:pG c (d+1) with
 | false =>
  refine ⟨fun hb=>(by simp at hb),fun _=>?_⟩;obtain ⟨pos,k1⟩:=hi.2 hfa;refine ⟨pos,rL fun f=>?_⟩;rw [rs,if_neg aq];simp only;rw [if_neg (by rw [hv];decide),if_pos (.inl hv),tail_cons,k1]
 | true =>
  obtain ⟨tc,k1,k2⟩:=hi.1 hfa;rw [Bool.true_and]
  cases hfb:(decide (d+1<=60)&&S.fits l (d+2)) with
  | false =>
   refine ⟨fun hb=>(by simp at hb),fun _=>?_⟩;obtain ⟨pos,k3⟩:=hb.2 hfb;refine ⟨pos,xn k3 fun f k3=>?_⟩;rw [rs,if_neg aq];simp only;rw [if_neg (by rw [hv];decide),if_pos (.inl hv),tail_cons,k2];simp only;rw [k3]
  | true =>
   obtain ⟨tb,k3,k4⟩:=hb.1 hfb;rw [Bool.true_and];refine ⟨fun h=>?_,fun h=>?_⟩
   ·obtain ⟨tb2,k5,k6⟩:=eL.1 h;refine ⟨one 9 v.at_ [] [tc,tb,tb2],by show er _=_;rw [dF,aP,aP,aP,k1,k3,k5,S.tree];rfl,HT k4 k6 fun f k4 k6=>?_⟩;rw [rs,if_neg aq];simp only;rw [if_neg (by rw [hv];decide),if_pos (.inl hv),tail_cons,k2];simp only;rw [k4];simp only;rw [if_pos hv,if_pos hz,tail_cons,k6];rfl
   ·obtain ⟨pos,k5⟩:=eL.2 h;refine ⟨pos,HT k4 k5 fun f k4 k5=>?_⟩;rw [rs,if_neg aq];simp only;rw [if_neg (by rw [hv];decide),if_pos (.inl hv),tail_cons,k2];simp only;rw [k4];simp only;rw [if_pos hv,if_pos hz,tail_cons,k5]
end
mutual
theorem coreS:∀ (s:S),qO s
 | .set s a=>OX s a
 | .put s a b=>OV s a b
 | .if1 c b=>OS c (ym b)
 | .if2 c b b2=>OT c (ym b) (ym b2)
 | .while_ c b=>JB c (ym b)
 | .ret a=>OW a
 | .do_ a=>R9 a
 | .var s a=>OY s a
theorem ym:∀ (l:List S),qN l
 | []=>LQ
 | a::l=>Jz (coreS a) (ym l)
end
def Ju (l:List S):List K:=kS [123]::(S.mF l++[kS [125]])
def bG (l:List S):T:=.mk ⟨14,0,0,[],[]⟩ (S.trees l)
def eu (l:List S) (d:Nat):Bool:=decide (d<=60)&&S.fits l (d+1)
theorem Xf (e:Int):∀ f,(∀ j ts,rs e f j ts=.error aX\/rs e (f+1) j ts=rs e f j ts)/\(∀ d acc ts,rs.body e f d acc ts=.error aX\/rs.body e (f+1) d acc ts=rs.body e f d acc ts):=by
 intro f
 induction f with
 | zero=>exact ⟨fun j ts=>.inl (by simp [rs]),fun d acc ts=>.inl (by simp [rs.body])⟩
 | succ f ih =>
  obtain ⟨i1,i2⟩:=ih;refine ⟨fun j ts=>?_,fun d acc ts=>?_⟩
  ·cases j with
   | block d =>
    rw [rs,rs];split
    ·exact .inr rfl
    ·cases aO e [123] ts with
     | error x=>exact .inr rfl
     | ok r =>
      simp only
      rcases i2 (d+1) [] r with h | h
      ·left;rw [h]
      ·rw [h];exact .inr rfl
   | stmt d =>
    rw [rs,rs];split
    ·exact .inr rfl
    ·simp only;split
     ·exact .inr rfl
     ·split
      ·cases inner e (d+1) [40] [41] ts.tail with
       | error x=>exact .inr rfl
       | ok y =>
        obtain ⟨c,r⟩:=y;simp only
        rcases i1 (.block (d+1)) r with h | h
        ·left;rw [h]
        ·rw [h]
         cases rs e f (.block (d+1)) r with
         | error x=>exact .inr rfl
         | ok y =>
          obtain ⟨b,r⟩:=y;simp only;split
          ·split
           ·rcases i1 (.block (d+1)) r.tail with h | h
            ·left;rw [h]
            ·rw [h];exact .inr rfl
           ·exact .inr rfl
          ·exact .inr rfl
      ·exact .inr rfl
  ·rw [rs.body,rs.body];split
   ·exact .inr rfl
   ·rcases i1 (.stmt d) ts with h | h
    ·left;rw [h]
    ·rw [h]
     cases rs e f (.stmt d) ts with
     | error x=>exact .inr rfl
     | ok y=>exact i2 _ _ _
theorem S4 {e:Int} {f f':Nat} {j:qo} {ts:List Tok} (h:rs e f j ts≠.error aX) (hf:f<=f'):rs e f' j ts=rs e f j ts:=by
 obtain ⟨k,rfl⟩:=Nat.exists_eq_add_of_le hf;clear hf
 induction k with
 | zero=>rfl
 | succ k ih =>
  rcases (Xf e (f+k)).1 j ts with h1 | h1
  ·rw [ih] at h1;exact absurd h1 h
  ·rw [<-Nat.add_assoc,h1,ih]
theorem En {l:List S} {e:Int} {d:Nat} {ts rest:List Tok} (ho:S.cM l=true) (ht:ts.map kf=Ju l) :
  (eu l d=true->∃ t,er t=bG l/\block e d (ts++rest)=.ok (t,rest))/\(eu l d=false->∃ pos,block e d (ts++rest)=.error (9,pos)):=by
 obtain ⟨u,r,rfl,h1,h2⟩:=map_cons ht;obtain ⟨A,r,rfl,h3,h4⟩:=da h2;obtain ⟨w,rfl,h5⟩:=gP h4;obtain ⟨h1,cI⟩:=dV h1;obtain ⟨h5,QT⟩:=dV h5;have hb:=(ym l).blk (e:=e) (d:=d) (rest:=rest) ho h3 h1 cI h5 QT
 have he:u::(A++[w])++rest=u::(A++w::rest):=by simp
 rw [he]
 have key:∀ {x:Rd T},Es e (.block d) (u::(A++w::rest)) x->block e d (u::(A++w::rest))=x:=by
  rintro x ⟨f0,h0⟩;have bJ:rs e (mn (u::(A++w::rest))) (.block d) (u::(A++w::rest))≠.error aX:=vL;have:=S4 bJ (Nat.le_add_left _ f0);rw [h0 _ aq] at this;exact this.symm
 exact ⟨fun h=>by obtain ⟨t,k1,k2⟩:=hb.1 h;exact ⟨t,k1,key k2⟩,fun h=>by obtain ⟨pos,k1⟩:=hb.2 h;exact ⟨pos,key k1⟩⟩
end Go.Xp
namespace Go.Xp
open Go.Sp (bs eA c6 bX bO own mA gi bp)
def yQ (n:Int):Int:=if n % 4294967296 > 2147483647 then n % 4294967296 - 4294967296 else n % 4294967296
def cE (n:Nat):ai:=if h:n < 10 then [UInt8.ofNat (48+n)] else cE (n / 10)++[UInt8.ofNat (48+n % 10)]
termination_by n
decreasing_by omega
theorem oU (n:Nat):(cE n).length<=n+1:=by
 induction n using Nat.strongRecOn with
 | _ n ih =>
 unfold cE
 by_cases h:n < 10
 ·rw [dif_pos h];simp
 ·rw [dif_neg h,length_append];have:=ih (n / 10) aq;simp;omega
def bD:List ai->ai
 | []=>[]
 | x::r=>x++r.flatMap fun y=>44::32::y
theorem Bc {l:List ai} (h:l≠[]) (x:ai):bD (l++[x])=(bD l++[44,32])++x:=by
 cases l with
 | nil=>exact absurd rfl h
 | cons a l=>simp [bD,List.flatMap_append]
theorem wa (l:List ai) (k:Nat):(bD (l.take k)).length<=(bD l).length:=by
 cases l with
 | nil=>simp
 | cons a l =>
  cases k with
  | zero=>simp [bD]
  | succ k =>
   simp only [take_succ_cons,bD,length_append]
   have:∀ (l:List ai) (k:Nat),((l.take k).flatMap fun y=>(44:UInt8)::32::y).length<=(l.flatMap fun y=>(44:UInt8)::32::y).length:=by
    intro l
    induction l with
    | nil=>intro k;simp
    | cons b l ih=>intro k;cases k with
     | zero=>simp
     | succ k=>simp only [take_succ_cons,flatMap_cons,length_append];have:=ih k;omega
   have:=this l k;omega
def qf (lv k:Nat) (x:ai):ai:=if lv < k then (40::x)++[41] else x
mutual
def E.txt:E->ai
 | .num n=>cE n.toNat
 | .name s=>s
 | .at_ s a=>((s++[91])++a.txt)++[93]
 | .call s l=>((s++[40])++bD (E.cL l))++[41]
 | .un s a=>(s++[32])++qf a.lv 9 a.txt
 | .bin s a b=>(((qf a.lv (dM s) a.txt++[32])++s)++[32])++qf b.lv (dM s+1) b.txt
def E.cL:List E->List ai
 | []=>[]
 | a::l=>a.txt::E.cL l
end
mutual
def E.full:E->ai
 | .num n=>cE n.toNat
 | .name s=>s
 | .at_ s a=>((s++[91])++a.full)++[93]
 | .call s l=>((s++[40])++bD (E.rW l))++[41]
 | .un s a=>((40::s)++a.full)++[41]
 | .bin s a b=>(((((40::a.full)++[32])++s)++[32])++b.full)++[41]
def E.rW:List E->List ai
 | []=>[]
 | a::l=>a.full::E.rW l
end
theorem E.Qt (l:List E):E.cL l=l.map E.txt:=by
 induction l with
 | nil=>rfl
 | cons a l ih=>rw [E.cL,ih];rfl
theorem E.Mp (l:List E):E.rW l=l.map E.full:=by
 induction l with
 | nil=>rfl
 | cons a l ih=>rw [E.rW,ih];rfl
def E.out (least:Bool) (a:E):ai:=if least then a.txt else a.full
mutual
def S.txt (x:E->ai):S->ai
 | .set s a=>((s++[32,61,32])++x a)++[59]
 | .put s a b=>((((s++[91])++x a)++[93,32,61,32])++x b)++[59]
 | .if1 c b=>(([105,102,32,40]++x c)++[41,32])++(S.cL x [123,32] b++[125])
 | .if2 c b b2=>(((([105,102,32,40]++x c)++[41,32])++(S.cL x [123,32] b++[125]))++[32,101,108,115,101,32])++(S.cL x [123,32] b2++[125])
 | .while_ c b=>(([119,104,105,108,101,32,40]++x c)++[41,32])++(S.cL x [123,32] b++[125])
 | .ret a=>([114,101,116,117,114,110,32]++x a)++[59]
 | .do_ a=>x a++[59]
 | .var s a=>((([118,97,114,32]++s)++[32,61,32])++x a)++[59]
def S.cL (x:E->ai):ai->List S->ai
 | acc,[]=>acc
 | acc,a::l=>S.cL x ((acc++a.txt x)++[32]) l
end
def eU (x:E->ai) (l:List S):ai:=S.cL x [123,32] l++[125]
theorem HA (n:Nd) (l:List T):c6 (.mk n l)=(bX l&&bO (.mk n l)):=by rw [c6]
theorem tM {l:List T} (h:bX l=true) {t:T} (ht:t∈l):c6 t=true:=by
 induction l with
 | nil=>cases ht
 | cons a l ih =>
  rw [bX,Bool.and_eq_true] at h
  rcases List.mem_cons.1 ht with rfl | ht
  ·exact h.1
  ·exact ih h.2 ht
theorem lY (n:Nd) (l:List T):er (.mk n l)=.mk ⟨n.kind,0,n.n,n.s,[]⟩ (aP l):=by rw [er]
theorem im {l:List T} {m i:Nat} (h:bp m i l=true):∀ (j:Nat) t,l[j]?=some t->(if i+j < m then mA t.n.kind else t.n.kind==14)=true:=by
 induction l generalizing i with
 | nil=>intro j t h;simp at h
 | cons a l ih =>
  rw [bp,Bool.and_eq_true] at h;intro j t hj
  cases j with
  | zero=>cases hj;exact h.1
  | succ j=>have:=ih h.2 j t (by simpa using hj);rw [show i+(j+1)=i+1+j by omega];exact this
theorem EG:∀ (l:List T),(∀ t∈l,∃ a:E,a.ok=true/\er t=a.tree)->∃ es:List E,E.cM es=true/\aP l=E.trees es
 | [],_=>⟨[],rfl,rfl⟩
 | t::l,h=>by
  obtain ⟨a,h1,h2⟩:=h t (mem_cons_self);obtain ⟨es,h3,h4⟩:=EG l (fun t ht=>h t (mem_cons_of_mem _ ht));exact ⟨a::es,by simp [E.cM,h1,h3],by rw [aP,E.trees,h2,h4]⟩
theorem toE:∀ (sz:Nat) (t:T),sizeOf t<=sz->c6 t=true->mA t.n.kind=true->∃ a:E,a.ok=true/\er t=a.tree:=by
 intro sz
 induction sz with
 | zero=>intro t h;cases t;simp at h
 | succ sz ih =>
  intro t cR ha hk;obtain ⟨n,l⟩:=t;rw [HA,Bool.and_eq_true] at ha;obtain ⟨ha,ho⟩:=ha
  have pN:∀ t∈l,mA t.n.kind=true->∃ a:E,a.ok=true/\er t=a.tree:=fun t ht hk=>by
   have:=List.sizeOf_lt_of_mem ht;exact ih t (by simp at cR;omega) (tM ha ht) hk
  obtain ⟨k,at_,v,s,ks⟩:=n
  have hk:(1:Int)<=k/\k<=6:=by
   simp only [mA,T.n,Bool.and_eq_true] at hk;exact ⟨of_decide_eq_true hk.1,of_decide_eq_true hk.2⟩
  simp only [bO,own,T.n,T.kids] at ho
  obtain rfl | rfl | rfl | rfl | rfl | rfl:k=1\/k=2\/k=3\/k=4\/k=5\/k=6:=by omega
  ·simp at ho;obtain ⟨h1,h2,h3,h4,h5⟩:=ho;subst h4 h5;exact ⟨.num v,by simp only [E.ok,Bool.and_eq_true];exact ⟨h2,h3⟩,by rw [lY,E.tree];rfl⟩
  ·simp at ho;obtain ⟨h1,h2,h3,h4⟩:=ho;subst h2 h4;exact ⟨.name s,by simp [E.ok,h3],by rw [lY,E.tree];rfl⟩
  ·simp at ho;obtain ⟨h1,h2,h3,h4,h5⟩:=ho;subst h2
   match l,h4 with
   | [t],_ =>
    have wW:=im h5 0 t rfl;obtain ⟨a,h6,h7⟩:=pN t (by simp) (by simpa using wW);exact ⟨.at_ s a,by simp [E.ok,h3,h6],by rw [lY,E.tree,aP,h7];rfl⟩
  ·simp at ho;obtain ⟨h1,h2,h3,h5⟩:=ho;subst h2
   obtain ⟨es,h6,h7⟩:=EG l fun t ht=>pN t ht (by
    obtain ⟨j,hj⟩:=List.mem_iff_getElem?.1 ht;have ao:=(List.getElem?_eq_some_iff.1 hj).1;have:=im h5 j t hj
    rw [if_pos aq] at this;exact this)
   exact ⟨.call s es,by simp [E.ok,h3,h6],by rw [lY,E.tree,h7]⟩
  ·simp at ho;obtain ⟨h1,h2,h3,h4,h5⟩:=ho;subst h2
   match l,h4 with
   | [t],_ =>
    have wW:=im h5 0 t rfl;obtain ⟨a,h6,h7⟩:=pN t (by simp) (by simpa using wW);exact ⟨.un s a,by simp only [E.ok,h6,Bool.and_true,Bool.or_eq_true,beq_iff_eq];exact h3,by rw [lY,E.tree,aP,h7];rfl⟩
  ·simp at ho;obtain ⟨h1,h2,h3,h4,h5⟩:=ho;subst h2
   match l,h4 with
   | [t,u],_ =>
    have wW:=im h5 0 t rfl;have hku:=im h5 1 u rfl;obtain ⟨a,h6,h7⟩:=pN t (by simp) (by simpa using wW);obtain ⟨b,h8,h9⟩:=pN u (by simp) (by simpa using hku);exact ⟨.bin s a b,by simp [E.ok,h3,h6,h8],by rw [lY,E.tree,aP,aP,h7,h9];rfl⟩
theorem Ge:∀ (l:List T),(∀ t∈l,∃ a:S,a.ok=true/\er t=a.tree)->∃ es:List S,S.cM es=true/\aP l=S.trees es
 | [],_=>⟨[],rfl,rfl⟩
 | t::l,h=>by
  obtain ⟨a,h1,h2⟩:=h t (mem_cons_self);obtain ⟨es,h3,h4⟩:=Ge l (fun t ht=>h t (mem_cons_of_mem _ ht));exact ⟨a::es,by simp [S.cM,h1,h3],by rw [aP,S.trees,h2,h4]⟩
theorem toS:∀ (sz:Nat) (t:T),sizeOf t<=sz->c6 t=true->(gi t.n.kind=true->∃ a:S,a.ok=true/\er t=a.tree)/\(t.n.kind=14->∃ l:List S,S.cM l=true/\er t=bG l):=by
 intro sz
 induction sz with
 | zero=>intro t h;cases t;simp at h
 | succ sz ih =>
  intro t cR ha;obtain ⟨n,l⟩:=t;rw [HA,Bool.and_eq_true] at ha;obtain ⟨ha,ho⟩:=ha
  have hex:∀ t∈l,mA t.n.kind=true->∃ a:E,a.ok=true/\er t=a.tree:=fun t ht hk=>toE _ t (Nat.le_refl _) (tM ha ht) hk
  have dA:∀ t∈l,t.n.kind=14->∃ l:List S,S.cM l=true/\er t=bG l:=fun t ht hk=>by
   have:=List.sizeOf_lt_of_mem ht;exact (ih t (by simp at cR;omega) (tM ha ht)).2 hk
  have b7:∀ t∈l,gi t.n.kind=true->∃ a:S,a.ok=true/\er t=a.tree:=fun t ht hk=>by
   have:=List.sizeOf_lt_of_mem ht;exact (ih t (by simp at cR;omega) (tM ha ht)).1 hk
  obtain ⟨k,at_,v,s,ks⟩:=n;simp only [bO,own,T.n,T.kids] at ho;refine ⟨fun hk=>?_,fun hk=>?_⟩
  ·have hk:(7:Int)<=k/\k<=13:=by
    simp only [gi,T.n,Bool.and_eq_true] at hk;exact ⟨of_decide_eq_true hk.1,of_decide_eq_true hk.2⟩
   obtain rfl | rfl | rfl | rfl | rfl | rfl | rfl:k=7\/k=8\/k=9\/k=10\/k=11\/k=12\/k=13:=by omega
   ·simp at ho;obtain ⟨h1,h2,h3,h4,h5⟩:=ho;subst h2
    match l,h4 with
    | [t],_ =>
     obtain ⟨a,h6,h7⟩:=hex t (by simp) (by simpa using im h5 0 t rfl);exact ⟨.set s a,by simp [S.ok,h3,h6],by rw [lY,S.tree,aP,h7];rfl⟩
   ·simp at ho;obtain ⟨h1,h2,h3,h4,h5⟩:=ho;subst h2
    match l,h4 with
    | [t,u],_ =>
     obtain ⟨a,h6,h7⟩:=hex t (by simp) (by simpa using im h5 0 t rfl);obtain ⟨b,h8,h9⟩:=hex u (by simp) (by simpa using im h5 1 u rfl);exact ⟨.put s a b,by simp [S.ok,h3,h6,h8],by rw [lY,S.tree,aP,aP,h7,h9];rfl⟩
   ·simp at ho;obtain ⟨h1,h2,h3,h4,h5⟩:=ho;subst h2 h3
    rcases h4 with h4 | h4
    ·match l,h4 with
     | [t,u],_ =>
      obtain ⟨a,h6,h7⟩:=hex t (by simp) (by simpa using im h5 0 t rfl);obtain ⟨b,h8,h9⟩:=dA u (by simp) (by simpa using im h5 1 u rfl);exact ⟨.if1 a b,by simp [S.ok,h6,h8],by rw [lY,S.tree,aP,aP,h7,h9];rfl⟩
    ·match l,h4 with
     | [t,u,w],_ =>
      obtain ⟨a,h6,h7⟩:=hex t (by simp) (by simpa using im h5 0 t rfl);obtain ⟨b,h8,h9⟩:=dA u (by simp) (by simpa using im h5 1 u rfl);obtain ⟨c,lj,oB⟩:=dA w (by simp) (by simpa using im h5 2 w rfl);exact ⟨.if2 a b c,by simp [S.ok,h6,h8,lj],by rw [lY,S.tree,aP,aP,aP,h7,h9,oB];rfl⟩
   ·simp at ho;obtain ⟨h1,h2,h3,h4,h5⟩:=ho;subst h2 h3
    match l,h4 with
    | [t,u],_ =>
     obtain ⟨a,h6,h7⟩:=hex t (by simp) (by simpa using im h5 0 t rfl);obtain ⟨b,h8,h9⟩:=dA u (by simp) (by simpa using im h5 1 u rfl);exact ⟨.while_ a b,by simp [S.ok,h6,h8],by rw [lY,S.tree,aP,aP,h7,h9];rfl⟩
   ·simp at ho;obtain ⟨h1,h2,h3,h4,h5⟩:=ho;subst h2 h3
    match l,h4 with
    | [t],_ =>
     obtain ⟨a,h6,h7⟩:=hex t (by simp) (by simpa using im h5 0 t rfl);exact ⟨.ret a,by simp [S.ok,h6],by rw [lY,S.tree,aP,h7];rfl⟩
   ·simp at ho;obtain ⟨h1,h2,h3,h4,h5⟩:=ho;subst h2 h3
    match l,h4 with
    | [t],_ =>
     obtain ⟨a,h6,h7⟩:=hex t (by simp) (by simpa using im h5 0 t rfl);exact ⟨.do_ a,by simp [S.ok,h6],by rw [lY,S.tree,aP,h7];rfl⟩
   ·simp at ho;obtain ⟨h1,h2,h3,h4,h5⟩:=ho;subst h2
    match l,h4 with
    | [t],_ =>
     obtain ⟨a,h6,h7⟩:=hex t (by simp) (by simpa using im h5 0 t rfl);exact ⟨.var s a,by simp [S.ok,h3,h6],by rw [lY,S.tree,aP,h7];rfl⟩
  ·simp only [T.n] at hk;subst hk;simp at ho;obtain ⟨h1,h2,h3,h4⟩:=ho;subst h2 h4
   obtain ⟨es,h5,h6⟩:=Ge l fun t ht=>b7 t ht (h3 t ht)
   exact ⟨es,h5,by rw [lY,bG,h6]⟩
theorem toB {t:T} (h:c6 t=true) (hk:t.n.kind=14):∃ l:List S,S.cM l=true/\er t=bG l:=(toS _ t (Nat.le_refl _) h).2 hk
mutual
def wt:T->Nat
 | .mk n l=>30+n.s.length+eI l
def eI:List T->Nat
 | []=>0
 | t::l=>wt t+eI l
end
mutual
theorem RP:∀ t:T,wt (er t)=wt t
 | .mk n l=>by rw [er,wt,wt,Ji l]
theorem Ji:∀ l:List T,eI (aP l)=eI l
 | []=>rfl
 | t::l=>by rw [aP,eI,eI,RP t,Ji l]
end
theorem HJ:∀ (k n:Nat),n < 10 ^ (k+1)->(cE n).length<=k+1:=by
 intro k
 induction k with
 | zero=>intro n h;unfold cE;rw [dif_pos aq];simp
 | succ k ih =>
  intro n h;unfold cE;split
  ·simp
  ·rw [length_append];have:=ih (n / 10) (by rw [Nat.pow_succ] at h;omega);simp;omega
theorem r9 (lv k:Nat) (x:ai):(qf lv k x).length<=x.length+2:=by unfold qf;split <;> simp
mutual
theorem E.len:∀ a:E,a.ok=true->a.txt.length+4<=wt a.tree/\a.full.length+4<=wt a.tree
 | .num n,h=>by
  simp only [E.ok,Bool.and_eq_true] at h;have h1:=of_decide_eq_true h.1;have h2:=of_decide_eq_true h.2;have:=HJ 9 n.toNat aq;rw [E.txt,E.full,E.tree,wt];simp only [length_nil,eI];omega
 | .name s,h=>by rw [E.txt,E.full,E.tree,wt];simp only [eI];omega
 | .at_ s a,h=>by
  simp only [E.ok,Bool.and_eq_true] at h;have:=E.len a h.2;rw [E.txt,E.full,E.tree,wt];simp only [eI,length_append,length_cons,length_nil];omega
 | .call s l,h=>by
  simp only [E.ok,Bool.and_eq_true] at h;have:=E.lens l h.2;rw [E.txt,E.full,E.tree,wt];simp only [length_append,length_cons,length_nil];omega
 | .un s a,h=>by
  simp only [E.ok,Bool.and_eq_true] at h;have:=E.len a h.2;have:=r9 a.lv 9 a.txt;rw [E.txt,E.full,E.tree,wt];simp only [eI,length_append,length_cons,length_nil];omega
 | .bin s a b,h=>by
  simp only [E.ok,Bool.and_eq_true] at h;have:=E.len a h.1.2;have:=E.len b h.2;have:=r9 a.lv (dM s) a.txt;have:=r9 b.lv (dM s+1) b.txt;rw [E.txt,E.full,E.tree,wt];simp only [eI,length_append,length_cons,length_nil];omega
theorem E.lens:∀ l:List E,E.cM l=true->(bD (E.cL l)).length<=eI (E.trees l)/\(bD (E.rW l)).length<=eI (E.trees l)
 | [],_=>⟨Nat.zero_le _,Nat.zero_le _⟩
 | a::l,h=>by
  simp only [E.cM,Bool.and_eq_true] at h;have h1:=E.len a h.1;have h2:=E.lens l h.2;rw [E.cL,E.rW,E.trees,eI]
  have key:∀ (x:ai) (l:List ai),(bD (x::l)).length<=x.length+2+(bD l).length:=by
   intro x l
   cases l with
   | nil=>simp [bD]
   | cons y l=>simp [bD];omega
  have:=key a.txt (E.cL l);have:=key a.full (E.rW l);omega
end
mutual
theorem S.len (x:E->ai) (hx:∀ a:E,a.ok=true->(x a).length+4<=wt a.tree):∀ s:S,s.ok=true->(s.txt x).length+4<=wt s.tree
 | .set s a,h=>by
  simp only [S.ok,Bool.and_eq_true] at h;have:=hx a h.2;rw [S.txt,S.tree,wt];simp only [eI,length_append,length_cons,length_nil];omega
 | .put s a b,h=>by
  simp only [S.ok,Bool.and_eq_true] at h;have:=hx a h.2.1;have:=hx b h.2.2;rw [S.txt,S.tree,wt];simp only [eI,length_append,length_cons,length_nil];omega
 | .if1 c b,h=>by
  simp only [S.ok,Bool.and_eq_true] at h;have:=hx c h.1;have:=S.lens x hx b h.2 [123,32];rw [S.txt,S.tree,wt];simp only [eI,wt,length_append,length_cons,length_nil] at *;omega
 | .if2 c b b2,h=>by
  simp only [S.ok,Bool.and_eq_true] at h;have:=hx c h.1;have:=S.lens x hx b h.2.1 [123,32];have:=S.lens x hx b2 h.2.2 [123,32];rw [S.txt,S.tree,wt];simp only [eI,wt,length_append,length_cons,length_nil] at *;omega
 | .while_ c b,h=>by
  simp only [S.ok,Bool.and_eq_true] at h;have:=hx c h.1;have:=S.lens x hx b h.2 [123,32];rw [S.txt,S.tree,wt];simp only [eI,wt,length_append,length_cons,length_nil] at *;omega
 | .ret a,h=>by
  simp only [S.ok] at h;have:=hx a h;rw [S.txt,S.tree,wt];simp only [eI,length_append,length_cons,length_nil];omega
 | .do_ a,h=>by
  simp only [S.ok] at h;have:=hx a h;rw [S.txt,S.tree,wt];simp only [eI,length_append,length_cons,length_nil];omega
 | .var s a,h=>by
  simp only [S.ok,Bool.and_eq_true] at h;have:=hx a h.2;rw [S.txt,S.tree,wt];simp only [eI,length_append,length_cons,length_nil];omega
theorem S.lens (x:E->ai) (hx:∀ a:E,a.ok=true->(x a).length+4<=wt a.tree):∀ l:List S,S.cM l=true->∀ acc:ai,(S.cL x acc l).length<=acc.length+eI (S.trees l)
 | [],_,acc=>by rw [S.cL];omega
 | a::l,h,acc=>by
  simp only [S.cM,Bool.and_eq_true] at h;have h1:=S.len x hx a h.1;have h2:=S.lens x hx l h.2 ((acc++a.txt x)++[32]);rw [S.cL,S.trees,eI];simp only [length_append,length_cons,length_nil] at h2;omega
end
theorem r8 (x:E->ai) (hx:∀ a:E,a.ok=true->(x a).length+4<=wt a.tree) {l:List S} (h:S.cM l=true):(eU x l).length<=wt (bG l):=by
 have:=S.lens x hx l h [123,32];unfold eU bG;rw [wt];simp only [length_append,length_cons,length_nil] at *;omega
end Go.Xp
namespace Go.Im
open Go.Xp Go.Sp
def qc (g:Nat->Option (T × Nat)):List Int->Nat->List T->Option (List T × Nat)
 | [],next,acc=>some (acc,next)
 | k::r,next,acc=>if k=(next:Int) then match g next with
  | none=>none
  | some (t,e)=>qc g r e (acc++[t])
  else none
def od (nodes:List Nd):Nat->Nat->Option (T × Nat)
 | 0,_=>none
 | f+1,a=>match nodes[a]? with
  | none=>none
  | some n=>match qc (od nodes f) n.kids (a+1) [] with
   | none=>none
   | some (l,e)=>if n.at_ < 0 then none else some (.mk n l,e)
def tr (nodes:List Nd) (a:Nat):Option (T × Nat):=od nodes (nodes.length+1) a
theorem Gr {nodes:List Nd} {g:Nat->Option (T × Nat)} (hg:∀ a t e,g a=some (t,e)->a < e/\e<=nodes.length/\e=a+aR t/\(nodes.take e).drop a=lP a t) :
  ∀ (ks:List Int) (next:Nat) (acc l:List T) (e:Nat),next<=nodes.length->qc g ks next acc=some (l,e)->∃ l',l=acc++l'/\e=next+aB l'/\e<=nodes.length/\ks=bY next l'/\(nodes.take e).drop next=eg next l'
 | [],next,acc,l,e,hn,h=>by
  rw [qc] at h;cases h;exact ⟨[],by simp,by simp [aB],hn,rfl,by rw [eg];exact eq_nil_of_length_eq_zero (by rw [length_drop,length_take];omega)⟩
 | k::r,next,acc,l,e,hn,h=>by
  rw [qc] at h;split at h
  ·rename_i hk
   cases hq:g next with
   | none=>rw [hq] at h;cases h
   | some x =>
    obtain ⟨t,e1⟩:=x;rw [hq] at h;simp only at h;obtain ⟨a1,a2,a3,a4⟩:=hg _ _ _ hq;obtain ⟨l',b1,b2,b3,b4,b5⟩:=Gr hg r e1 (acc++[t]) l e a2 h;refine ⟨t::l',by rw [b1];simp,by rw [aB];omega,b3,by rw [bY,<-a3,<-b4,hk],?_⟩;rw [eg,<-a3,<-a4,<-b5]
    have he:e1<=e:=by omega
    have h1:(nodes.take e).take e1=nodes.take e1:=by rw [List.take_take,Nat.min_eq_left he]
    have h2:(nodes.take e).drop next=((nodes.take e).take e1).drop next++(nodes.take e).drop e1:=by
     have h3:nodes.take e=(nodes.take e).take e1++(nodes.take e).drop e1:=(take_append_drop _ _).symm
     have h4:((nodes.take e).take e1).length=e1:=by rw [length_take,length_take];omega
     rw [h3,List.drop_append_of_le_length (by rw [h4];omega)];rw [<-h3]
    rw [h2,h1]
  ·cases h
theorem Am {nodes:List Nd}:∀ (f a:Nat) (t:T) (e:Nat),od nodes f a=some (t,e)->a < e/\e<=nodes.length/\e=a+aR t/\(nodes.take e).drop a=lP a t
 | 0,a,t,e,h=>by cases h
 | f+1,a,t,e,h=>by
  rw [od] at h
  cases hn:nodes[a]? with
  | none=>rw [hn] at h;cases h
  | some n =>
   rw [hn] at h;simp only at h;have ao:=(List.getElem?_eq_some_iff.1 hn).1
   cases hk:qc (od nodes f) n.kids (a+1) [] with
   | none=>rw [hk] at h;cases h
   | some x =>
    obtain ⟨l,e1⟩:=x;rw [hk] at h;simp only at h;split at h
    ·cases h
    ·cases h;obtain ⟨l',b1,b2,b3,b4,b5⟩:=Gr (Am f) n.kids (a+1) [] l e ao hk
     have:l'=l:=by rw [b1];rfl
     subst this;refine ⟨by omega,b3,by rw [aR];omega,?_⟩;rw [lP,<-b4,<-b5]
     have h1:(nodes.take e)[a]?=some n:=by rw [getElem?_take,if_pos aq];exact hn
     obtain ⟨h2,h3⟩:=List.getElem?_eq_some_iff.1 h1;rw [List.drop_eq_getElem_cons h2,h3]
def jj (nodes:List Nd):List Fn->Nat->List T->Option (List T × Nat)
 | [],next,acc=>some (acc,next)
 | f::r,next,acc=>match tr nodes next with
  | none=>none
  | some (t,e)=>if f.body=(next:Int) then jj nodes r e (acc++[t]) else none
def cV (k:Int) (n:Nat):Bool :=
 if k=1\/k=2 then ((n:Int)==0)
 else if k=4\/k=14 then true
 else if k=3\/k=5\/k=7\/k=11\/k=12\/k=13 then ((n:Int)==1)
 else if k=6\/k=8\/k=10 then ((n:Int)==2)
 else if k=9 then ((n:Int)==2) || ((n:Int)==3)
 else false
mutual
def fP:T->Bool
 | .mk n l=>cV n.kind l.length&&uB l
def uB:List T->Bool
 | []=>true
 | t::r=>fP t&&uB r
end
theorem xR (t:T):fP t=(cV t.n.kind t.kids.length&&uB t.kids):=by cases t;rw [fP];rfl
theorem s9 (l:List T):uB l=l.all fP:=by
 induction l with
 | nil=>rfl
 | cons t l ih=>rw [uB,ih];rfl
mutual
def et (nodes:List Nd):Nat->T->Prop
 | a,.mk n l=>nodes[a]?=some n/\n.kids=bY (a+1) l/\dy nodes (a+1) l
def dy (nodes:List Nd):Nat->List T->Prop
 | _,[]=>True
 | a,t::r=>et nodes a t/\dy nodes (a+aR t) r
end
mutual
def xg:T->Prop
 | .mk n l=>0<=n.at_/\lX l
def lX:List T->Prop
 | []=>True
 | t::r=>xg t/\lX r
end
theorem kv (t:T):1<=aR t:=by rw [ej];omega
mutual
theorem et.le {nodes:List Nd}:∀ (t:T) (a:Nat),et nodes a t->a+aR t<=nodes.length
 | .mk n l,a,h=>by
  rw [et] at h;have h1:=(List.getElem?_eq_some_iff.1 h.1).1;have:=dy.le l (a+1) h.2.2 h1;rw [aR];omega
theorem dy.le {nodes:List Nd}:∀ (l:List T) (a:Nat),dy nodes a l->a<=nodes.length->a+aB l<=nodes.length
 | [],a,h,ha=>by rw [aB];exact ha
 | t::r,a,h,ha=>by
  rw [dy] at h;have h1:=et.le t a h.1;have:=dy.le r _ h.2 h1;rw [aB];omega
end
theorem HN {nodes:List Nd}:∀ (f:Nat),(∀ (a d:Nat) (e:Int),oh nodes f a d=some e->0<=e->∃ t,et nodes a t/\e=((a+aR t:Nat):Int)) /\
  (∀ (ks:List Int) (next d:Nat) (e:Int),nr nodes f ks (next:Int) d=some e->0<=e->∃ l,dy nodes next l/\ks=bY next l/\e=((next+aB l:Nat):Int)):=by
 intro f
 induction f with
 | zero =>
  refine ⟨fun a d e h _=>by simp [oh] at h,fun ks next d e h _=>?_⟩
  cases ks with
  | nil=>rw [nr] at h;cases h;exact ⟨[],trivial,rfl,by simp [aB]⟩
  | cons k r=>simp [nr] at h
 | succ f ih =>
  refine ⟨fun a d e h he=>?_,fun ks next d e h he=>?_⟩
  ·rw [oh] at h;split at h
   ·cases h;omega
   ·cases hn:nodes[a]? with
    | none=>rw [hn] at h;cases h
    | some n =>
     rw [hn] at h;simp only at h;rw [show ((a:Int)+1)=((a+1:Nat):Int) by omega] at h;obtain ⟨l,h1,h2,h3⟩:=ih.2 _ _ _ _ h he;exact ⟨.mk n l,by rw [et];exact ⟨hn,h2,h1⟩,by rw [h3,aR];omega⟩
  ·cases ks with
   | nil=>rw [nr] at h;cases h;exact ⟨[],trivial,rfl,by simp [aB]⟩
   | cons k r =>
    rw [nr] at h;split at h
    ·rename_i hk;subst hk;rw [Int.toNat_natCast] at h
     cases hq:oh nodes f next (d+1) with
     | none=>rw [hq] at h;cases h
     | some e1 =>
      rw [hq] at h;simp only at h;split at h
      ·cases h;omega
      ·rename_i h0;obtain ⟨t,h1,h2⟩:=ih.1 _ _ _ hq aq;subst h2;obtain ⟨l,h3,h4,h5⟩:=ih.2 _ _ _ _ h he;refine ⟨t::l,by rw [dy];exact ⟨h1,h3⟩,by rw [bY,<-h4],by rw [h5,aB];omega⟩
    ·cases h;omega
theorem vA {nodes:List Nd}:∀ (f:Nat),(∀ (t:T) (a:Nat),et nodes a t->2 * aR t<=f->sub nodes f a=some t) /\
  (∀ (l:List T) (a:Nat) (acc:List T),dy nodes a l->2 * aB l+1<=f->ou nodes f (bY a l) acc=some (acc++l)):=by
 intro f
 induction f with
 | zero =>
  exact ⟨fun t a _ h=>by have:=kv t;omega,fun l a acc _ h=>by omega⟩
 | succ f ih =>
  refine ⟨fun t a hs h=>?_,fun l a acc hs h=>?_⟩
  ·obtain ⟨n,l⟩:=t;rw [et] at hs;rw [aR] at h;rw [sub,hs.1];simp only;rw [hs.2.1,ih.2 l (a+1) [] hs.2.2 aq];rfl
  ·cases l with
   | nil=>rw [bY,ou];simp
   | cons t l =>
    rw [dy] at hs;rw [aB] at h;have:=kv t;rw [bY,ou,if_neg aq,Int.toNat_natCast,ih.1 t a hs.1 aq];simp only;rw [ih.2 l _ _ hs.2 aq];simp
theorem VT {nodes:List Nd}:∀ (f:Nat) (t:T) (a:Nat),et nodes a t->xg t->aR t<=f->od nodes f a=some (t,a+aR t):=by
 intro f
 induction f with
 | zero=>intro t a _ _ h;have:=kv t;omega
 | succ f ih =>
  intro t a hs ha h;obtain ⟨n,l⟩:=t
  have key:∀ (l:List T) (a:Nat) (acc:List T),dy nodes a l->lX l->aB l<=f->qc (od nodes f) (bY a l) a acc=some (acc++l,a+aB l):=by
   intro l
   induction l with
   | nil=>intro a acc _ _ _;rw [bY,qc,aB];simp
   | cons t l ih2 =>
    intro a acc hs ha h;rw [dy] at hs;rw [lX] at ha;rw [aB] at h;rw [bY,qc,if_pos rfl,ih t a hs.1 ha.1 aq];simp only;rw [ih2 _ _ hs.2 ha.2 aq,aB];simp [Nat.add_assoc]
  rw [et] at hs;rw [xg] at ha;rw [aR] at h;rw [od,hs.1];simp only;rw [hs.2.1,key l (a+1) [] hs.2.2 ha.2 aq];simp only;rw [if_neg aq,aR];simp only [nil_append,Option.some.injEq,Prod.mk.injEq,true_and];omega
theorem VK {nodes:List Nd}:∀ (f:Nat) (t:T) (a e:Nat),od nodes f a=some (t,e)->et nodes a t/\e=a+aR t/\xg t:=by
 intro f
 induction f with
 | zero=>intro t a e h;cases h
 | succ f ih =>
  intro t a e h
  have key:∀ (ks:List Int) (next:Nat) (acc l:List T) (e:Nat),qc (od nodes f) ks next acc=some (l,e)->∃ l',l=acc++l'/\dy nodes next l'/\ks=bY next l'/\e=next+aB l'/\lX l':=by
   intro ks
   induction ks with
   | nil=>intro next acc l e h;rw [qc] at h;cases h;exact ⟨[],by simp,trivial,rfl,by simp [aB],trivial⟩
   | cons k r ih2 =>
    intro next acc l e h
    rw [qc] at h;split at h
    ·rename_i hk
     cases hq:od nodes f next with
     | none=>rw [hq] at h;cases h
     | some x =>
      obtain ⟨t,e1⟩:=x;rw [hq] at h;simp only at h;obtain ⟨a1,a2,a3⟩:=ih _ _ _ hq;subst a2;obtain ⟨l',b1,b2,b3,b4,b5⟩:=ih2 _ _ _ _ h;exact ⟨t::l',by rw [b1];simp,by rw [dy];exact ⟨a1,b2⟩,by rw [bY,hk,b3],by rw [b4,aB];omega,by rw [lX];exact ⟨a3,b5⟩⟩
    ·cases h
  rw [od] at h
  cases hn:nodes[a]? with
  | none=>rw [hn] at h;cases h
  | some n =>
   rw [hn] at h;simp only at h
   cases hk:qc (od nodes f) n.kids (a+1) [] with
   | none=>rw [hk] at h;cases h
   | some x =>
    obtain ⟨l,e1⟩:=x;rw [hk] at h;simp only at h;split at h
    ·cases h
    ·rename_i h0;cases h;obtain ⟨l',b1,b2,b3,b4,b5⟩:=key _ _ _ _ _ hk
     have:l'=l:=by rw [b1];rfl
     subst this;exact ⟨by rw [et];exact ⟨hn,b3,b2⟩,by rw [b4,aR];omega,by rw [xg];exact ⟨by omega,b5⟩⟩
theorem Sg {nodes:List Nd} (hl:nodes.length<=800):∀ (f:Nat),(∀ (t:T) (a d:Nat),et nodes a t->d<=a->2 * aR t<=f->oh nodes f a d=some ((a+aR t:Nat):Int)) /\
  (∀ (l:List T) (a d:Nat),dy nodes a l->d < a->2 * aB l+1<=f->nr nodes f (bY a l) (a:Int) d=some ((a+aB l:Nat):Int)):=by
 intro f
 induction f with
 | zero =>
  exact ⟨fun t a d _ _ h=>by have:=kv t;omega,fun l a d _ _ h=>by omega⟩
 | succ f ih =>
  refine ⟨fun t a d hs hd h=>?_,fun l a d hs hd h=>?_⟩
  ·obtain ⟨n,l⟩:=t;rw [et] at hs;rw [aR] at h |-;have ao:=(List.getElem?_eq_some_iff.1 hs.1).1;rw [oh,if_neg aq,hs.1];simp only;rw [show ((a:Int)+1)=((a+1:Nat):Int) by omega,hs.2.1,ih.2 l (a+1) d hs.2.2 aq aq]
   congr 1;omega
  ·cases l with
   | nil=>rw [bY,nr,aB];simp
   | cons t l =>
    rw [dy] at hs;rw [aB] at h |-;have:=kv t;rw [bY,nr,if_pos rfl,Int.toNat_natCast,ih.1 t a (d+1) hs.1 aq aq];simp only;rw [if_neg aq,ih.2 l _ d hs.2 aq aq]
    congr 1;omega
theorem LY {nodes:List Nd}:∀ (f:Nat),(∀ (a d:Nat),2 * (nodes.length - a)+1<=f->∃ e,oh nodes f a d=some e/\(0<=e->(a:Int) < e/\a < nodes.length)) /\
  (∀ (ks:List Int) (next d:Nat),2 * (nodes.length - next)+2<=f->∃ e,nr nodes f ks (next:Int) d=some e/\(0<=e->(next:Int)<=e)):=by
 intro f
 induction f with
 | zero=>exact ⟨fun a d h=>by omega,fun ks next d h=>by omega⟩
 | succ f ih =>
  refine ⟨fun a d h=>?_,fun ks next d h=>?_⟩
  ·rw [oh];split
   ·exact ⟨-1,rfl,fun h=>by omega⟩
   ·rename_i hc
    cases hn:nodes[a]? with
    | none=>rw [List.getElem?_eq_none_iff] at hn;omega
    | some n =>
     simp only;rw [show ((a:Int)+1)=((a+1:Nat):Int) by omega];obtain ⟨e,h1,h2⟩:=ih.2 n.kids (a+1) d aq;exact ⟨e,h1,fun h=>⟨by have:=h2 h;omega,by omega⟩⟩
  ·cases ks with
   | nil=>rw [nr];exact ⟨_,rfl,fun _=>Int.le_refl _⟩
   | cons k r =>
    rw [nr];split
    ·rename_i hk;subst hk;rw [Int.toNat_natCast]
     obtain ⟨e,h1,h2⟩:=ih.1 next (d+1) aq
     rw [h1];simp only;split
     ·exact ⟨-1,rfl,fun h=>by omega⟩
     ·rename_i h0;have h3:=h2 aq;obtain ⟨m,rfl⟩:∃ m:Nat,e=(m:Int):=⟨e.toNat,by omega⟩;obtain ⟨e',h4,h5⟩:=ih.2 r m d aq;exact ⟨e',h4,fun h=>by have:=h5 h;omega⟩
    ·exact ⟨-1,rfl,fun h=>by omega⟩
def fw (Q:Fn->T->Prop):List Fn->Nat->List T->Prop
 | [],_,[]=>True
 | f::r,a,t::l=>f.body=(a:Int)/\Q f t/\fw Q r (a+aR t) l
 | _,_,_=>False
theorem fw.len {Q:Fn->T->Prop}:∀ {fns:List Fn} {a:Nat} {l:List T},fw Q fns a l->fns.length=l.length
 | [],_,[],_=>rfl
 | f::r,a,t::l,h=>by rw [fw] at h;rw [length_cons,length_cons,fw.len h.2.2]
 | [],_,t::l,h=>by cases h
 | f::r,_,[],h=>by cases h
theorem fw.mono {Q R:Fn->T->Prop}:∀ {fns:List Fn} {a:Nat} {l:List T},fw Q fns a l->(∀ f t,f∈fns->t∈l->Q f t->R f t)->fw R fns a l
 | [],_,[],_,_=>trivial
 | f::r,a,t::l,h,hq=>by
  rw [fw] at h |-;exact ⟨h.1,hq _ _ mem_cons_self mem_cons_self h.2.1,fw.mono h.2.2 fun f t hf ht=>hq f t (mem_cons_of_mem _ hf) (mem_cons_of_mem _ ht)⟩
 | [],_,t::l,h,_=>by cases h
 | f::r,_,[],h,_=>by cases h
theorem fw.at_ {Q:Fn->T->Prop}:∀ {fns:List Fn} {a:Nat} {l:List T},fw Q fns a l->∀ (i:Nat) f t,fns[i]?=some f->l[i]?=some t->f.body=((a+aB (l.take i):Nat):Int)/\Q f t
 | [],_,[],_,i,f,t,h1,h2=>by simp at h1
 | f::r,a,t::l,h,i,f',t',h1,h2=>by
  rw [fw] at h
  cases i with
  | zero=>cases h1;cases h2;rw [take_zero,aB];exact ⟨h.1,h.2.1⟩
  | succ i =>
   obtain ⟨k1,k2⟩:=fw.at_ h.2.2 i f' t' (by simpa using h1) (by simpa using h2);exact ⟨by rw [k1,take_succ_cons,aB];omega,k2⟩
 | [],_,t::l,h,_,_,_,_,_=>by cases h
 | f::r,_,[],h,_,_,_,_,_=>by cases h
structure OE (f:Fn) (t:T):Prop where
 name:bs f.name=true
 params:cw f.params=true
 kind:t.n.kind=14
 all:c6 t=true
theorem zb {nodes:List Nd}:∀ (fns:List Fn) (next:Nat) (e:Int),fR nodes fns (next:Int)=some (some e)->∃ l,dy nodes next l/\fw OE fns next l/\e=((next+aB l:Nat):Int)
 | [],next,e,h=>by rw [fR] at h;cases h;exact ⟨[],trivial,trivial,by simp [aB]⟩
 | f::r,next,e,h=>by
  rw [fR,Int.toNat_natCast] at h
  cases hn:oh nodes (fN nodes) next 0 with
  | none=>rw [hn] at h;cases h
  | some e1 =>
   rw [hn] at h;simp only at h;split at h
   ·cases h
   ·rename_i hc;split at h
    ·cases h
    ·rename_i hp;obtain ⟨t,h1,h2⟩:=(HN _).1 _ _ _ hn aq;have hle:=et.le t _ h1;rw [(vA _).1 t next h1 (by unfold fN;omega)] at h;simp only at h;split at h
     ·cases h
     ·rename_i hk;subst h2;obtain ⟨l,k1,k2,k3⟩:=zb r _ e h;refine ⟨t::l,by rw [dy];exact ⟨h1,k1⟩,?_,by rw [k3,aB];omega⟩;rw [fw];refine ⟨by omega,⟨?_,?_,?_,?_⟩,k2⟩
      ·cases hq:bs f.name with
       | true=>rfl
       | false=>exact absurd (.inr (.inl hq)) hc
      ·simpa using hp
      ·exact Decidable.byContradiction fun hq=>hk (.inl hq)
      ·cases hq:c6 t with
       | true=>rfl
       | false=>exact absurd (.inr hq) hk
theorem za {nodes:List Nd} (hl:nodes.length<=800):∀ (fns:List Fn) (next:Nat) (l:List T),dy nodes next l->fw OE fns next l->fR nodes fns (next:Int)=some (some ((next+aB l:Nat):Int))
 | [],next,[],_,_=>by rw [fR,aB];rfl
 | f::r,next,t::l,h,hf=>by
  rw [dy] at h;rw [fw] at hf;have hle:=et.le t _ h.1;rw [fR,Int.toNat_natCast,(Sg hl _).1 t next 0 h.1 (Nat.zero_le _) (by unfold fN;omega)];simp only;rw [if_neg (by rw [hf.2.1.name];rintro (h | h | h);exact h hf.1;cases h;omega),if_neg (by rw [hf.2.1.params];decide),(vA _).1 t next h.1 (by unfold fN;omega)];simp only;rw [if_neg (by rw [hf.2.1.all];rintro (h | h);exact h hf.2.1.kind;cases h),za hl r _ l h.2 hf.2.2,aB]
  congr 2;omega
 | [],_,t::l,_,h=>by cases h
 | f::r,_,[],_,h=>by cases h
theorem wP {nodes:List Nd}:∀ (fns:List Fn) (next:Nat),∃ r,fR nodes fns (next:Int)=some r
 | [],next=>⟨_,by rw [fR]⟩
 | f::r,next=>by
  obtain ⟨e,h1,h2⟩:=(LY (nodes:=nodes) (fN nodes)).1 next 0 (by unfold fN;omega)
  rw [fR,Int.toNat_natCast,h1];simp only;split
  ·exact ⟨_,rfl⟩
  ·rename_i hc;split
   ·exact ⟨_,rfl⟩
   ·obtain ⟨t,k1,k2⟩:=(HN _).1 _ _ _ h1 aq;have hle:=et.le t _ k1;rw [(vA _).1 t next k1 (by unfold fN;omega)];simp only;split
    ·exact ⟨_,rfl⟩
    ·rw [k2];exact wP r _
theorem KO (p:Src):∃ b,nW p=some b:=by
 unfold nW;split
 ·exact ⟨_,rfl⟩
 ·split
  ·exact ⟨_,rfl⟩
  ·obtain ⟨r,h⟩:=wP (nodes:=p.nodes) p.fns 0;rw [show ((0:Nat):Int)=0 from rfl] at h;rw [h]
   cases r <;> exact ⟨_,rfl⟩
structure fL (p:Src) (l:List T):Prop where
 globals:cw p.globals=true
 arrays:p.arrays.all og=true
 st:dy p.nodes 0 l
 fns:fw OE p.fns 0 l
 len:aB l=p.nodes.length
 few:p.nodes.length<=800
theorem Td {p:Src} (h:nW p=some true):∃ l,fL p l:=by
 unfold nW at h;split at h
 ·cases h
 ·rename_i h1;split at h
  ·cases h
  ·rename_i h2;rw [show (0:Int)=((0:Nat):Int) from rfl] at h
   cases hf:fR p.nodes p.fns ((0:Nat):Int) with
   | none=>rw [hf] at h;cases h
   | some r =>
    rw [hf] at h
    cases r with
    | none=>cases h
    | some e =>
     obtain ⟨l,k1,k2,k3⟩:=zb _ _ _ hf;simp only [Option.some.injEq,Bool.and_eq_true,beq_iff_eq,decide_eq_true_eq] at h;exact ⟨l,by simpa using h1,by simpa using h2,k1,k2,by omega,by omega⟩
theorem fL.nW {p:Src} {l:List T} (h:fL p l):nW p=some true:=by
 unfold Go.Sp.nW;rw [if_neg (by rw [h.globals];decide),if_neg (by rw [h.arrays];decide),show (0:Int)=((0:Nat):Int) from rfl,za h.few _ _ _ h.st h.fns];simp only [Option.some.injEq,Bool.and_eq_true,beq_iff_eq,decide_eq_true_eq];have:=h.len;have:=h.few;omega
theorem BP {nodes:List Nd}:∀ (fns:List Fn) (next:Nat) (acc l:List T) (e:Nat),jj nodes fns next acc=some (l,e)->∃ l',l=acc++l'/\dy nodes next l'/\fw (fun _ _=>True) fns next l'/\e=next+aB l'/\lX l'
 | [],next,acc,l,e,h=>by rw [jj] at h;cases h;exact ⟨[],by simp,trivial,trivial,by simp [aB],trivial⟩
 | f::r,next,acc,l,e,h=>by
  rw [jj] at h
  cases hq:tr nodes next with
  | none=>rw [hq] at h;cases h
  | some x =>
   obtain ⟨t,e1⟩:=x;rw [hq] at h;simp only at h;split at h
   ·rename_i hb;obtain ⟨a1,a2,a3⟩:=VK _ _ _ _ hq;subst a2;obtain ⟨l',b1,b2,b3,b4,b5⟩:=BP r _ _ _ _ h;exact ⟨t::l',by rw [b1];simp,by rw [dy];exact ⟨a1,b2⟩,by rw [fw];exact ⟨hb,trivial,b3⟩,by rw [b4,aB];omega,by rw [lX];exact ⟨a3,b5⟩⟩
   ·cases h
theorem HF {nodes:List Nd} {Q:Fn->T->Prop}:∀ (fns:List Fn) (next:Nat) (acc l:List T),dy nodes next l->fw Q fns next l->lX l->jj nodes fns next acc=some (acc++l,next+aB l)
 | [],next,acc,[],_,_,_=>by rw [jj,aB];simp
 | f::r,next,acc,t::l,h,hf,ha=>by
  rw [dy] at h;rw [fw] at hf;rw [lX] at ha;have hle:=et.le t _ h.1;rw [jj,tr,VT _ t next h.1 ha.1 aq];simp only;rw [if_pos hf.1,HF r _ _ l h.2 hf.2.2 ha.2,aB];simp [Nat.add_assoc]
 | [],_,_,t::l,_,h,_=>by cases h
 | f::r,_,_,[],_,h,_=>by cases h
mutual
theorem et.fl {nodes:List Nd}:∀ (t:T) (a:Nat),et nodes a t->(nodes.take (a+aR t)).drop a=lP a t
 | .mk n l,a,h=>by
  have hle:=et.le _ _ h;rw [et] at h;rw [aR] at hle;have h1:=dy.fl l (a+1) h.2.2 (by have:=(List.getElem?_eq_some_iff.1 h.1).1;omega);rw [lP,<-h.2.1,<-h1,aR,show a+(aB l+1)=a+1+aB l by omega]
  have h2:(nodes.take (a+1+aB l))[a]?=some n:=by rw [getElem?_take,if_pos aq];exact h.1
  obtain ⟨h3,h4⟩:=List.getElem?_eq_some_iff.1 h2;rw [List.drop_eq_getElem_cons h3,h4]
theorem dy.fl {nodes:List Nd}:∀ (l:List T) (a:Nat),dy nodes a l->a<=nodes.length->(nodes.take (a+aB l)).drop a=eg a l
 | [],a,h,ha=>by
  rw [eg];exact eq_nil_of_length_eq_zero (by rw [aB,length_drop,length_take];omega)
 | t::r,a,h,ha=>by
  rw [dy] at h;have hle:=et.le _ _ h.1;have h1:=et.fl t a h.1;have h2:=dy.fl r (a+aR t) h.2 hle;have zQ:=dy.le r _ h.2 hle;rw [eg,<-h1,<-h2,aB,show a+(aR t+aB r)=a+aR t+aB r by omega]
  have h3:nodes.take (a+aR t)=(nodes.take (a+aR t+aB r)).take (a+aR t):=by rw [List.take_take,Nat.min_eq_left aq]
  rw [h3];generalize hm:nodes.take (a+aR t+aB r)=m
  have dh:m.length=a+aR t+aB r:=by rw [<-hm,length_take];omega
  rw [<-List.drop_append_of_le_length (by rw [length_take];omega),take_append_drop]
end
theorem dy.all {nodes:List Nd} {l:List T} (h:dy nodes 0 l) (hl:aB l=nodes.length):nodes=eg 0 l:=by
 have:=dy.fl l 0 h (Nat.zero_le _);rw [Nat.zero_add,hl,List.take_length,List.drop_zero] at this;exact this
def nT (n:Int):ai:=if n < 0 then 45::cE n.natAbs else cE n.toNat
def ru (s:ai):Int:=match levels.findIdx? (fun l=>l.contains s) with | some i=>(i:Int) | none => -1
def tN (b:Bool) (x:ai):ai:=if b=true then (40::x)++[41] else x
def lr (t:T) (least:Int):Bool:=(t.n.kind==6)&&decide (ru t.n.s < least)
def tD (n:Nd) (l:List T) (x:List ai):ai :=
 if n.kind=1 then nT n.n
 else if n.kind=3 then ((n.s++[91])++x.getD 0 [])++[93]
 else if n.kind=4 then ((n.s++[40])++bD x)++[41]
 else if n.kind=5 then (n.s++[32])++(match l with | a::_=>tN (a.n.kind==6) (x.getD 0 []) | []=>[])
 else if n.kind=6 then (match l with
  | a::b::_=>(((tN (lr a (ru n.s)) (x.getD 0 [])++[32])++n.s)++[32])++tN (lr b (ru n.s+1)) (x.getD 1 [])
  | _=>[])
 else n.s
mutual
def cP:T->ai
 | .mk n l=>tD n l (fA l)
def fA:List T->List ai
 | []=>[]
 | t::r=>cP t::fA r
end
theorem N3 (t:T):cP t=tD t.n t.kids (fA t.kids):=by cases t;rw [cP];rfl
theorem Cz (l:List T):fA l=l.map cP:=by
 induction l with
 | nil=>rfl
 | cons t l ih=>rw [fA,ih];rfl
mutual
def jH:T->Nat
 | .mk n l=>n.s.length+60+fO l
def fO:List T->Nat
 | []=>0
 | t::r=>jH t+fO r
end
theorem oP (t:T):jH t=t.n.s.length+60+fO t.kids:=by cases t;rw [jH];rfl
theorem tI {l:List T} {t:T} (h:t∈l):jH t<=fO l:=by
 induction l with
 | nil=>cases h
 | cons a l ih =>
  rw [fO]
  rcases List.mem_cons.1 h with rfl | h
  ·omega
  ·have:=ih h;omega
theorem PM (l:List T):l.length * 60<=fO l:=by
 induction l with
 | nil=>simp
 | cons t l ih=>rw [fO,oP,length_cons];omega
theorem CT {n:Nat} (h:n < 100000000000000000000):(cE n).length<=20:=HJ 19 n (by simpa using h)
theorem xQ {n:Int} (h : -9223372036854775808<=n/\n<=9223372036854775807):(nT n).length<=21:=by
 unfold nT;split
 ·have:=CT (n:=n.natAbs) aq;simp only [length_cons];omega
 ·have:=CT (n:=n.toNat) aq;omega
theorem yl (b:Bool) (x:ai):(tN b x).length<=x.length+2:=by
 unfold tN;split <;> simp
theorem EI:∀ (r:List ai),(r.flatMap fun y=>44::32::y).length=(r.map fun y=>y.length+2).sum
 | []=>rfl
 | z::r=>by
  have:=EI r;simp only [flatMap_cons,length_append,List.map_cons,sum_cons,length_cons] at this |-;omega
theorem z6:∀ (x:List ai),(bD x).length<=(x.map fun y=>y.length+2).sum
 | []=>by simp [bD]
 | y::r=>by
  have h:=EI r;rw [List.map_cons,sum_cons,bD,length_append,h];omega
mutual
def oY:T->Prop
 | .mk n l=>(-9223372036854775808<=n.n/\n.n<=9223372036854775807)/\pS l
def pS:List T->Prop
 | []=>True
 | t::r=>oY t/\pS r
end
theorem qD (t:T):oY t↔(-9223372036854775808<=t.n.n/\t.n.n<=9223372036854775807)/\pS t.kids:=by cases t;rw [oY];exact Iff.rfl
theorem jG {l:List T} {t:T} (h:pS l) (ht:t∈l):oY t:=by
 induction l with
 | nil=>cases ht
 | cons a l ih =>
  rw [pS] at h
  rcases List.mem_cons.1 ht with rfl | ht
  ·exact h.1
  ·exact ih h.2 ht
theorem vD:∀ (N:Nat) (t:T),aR t<=N->oY t->(cP t).length+4<=jH t:=by
 intro N
 induction N with
 | zero=>intro t h;rw [ej] at h;omega
 | succ N ih =>
  intro t hN hn;rw [ej] at hN;rw [qD] at hn
  have hk:∀ a∈t.kids,(cP a).length+4<=jH a:=fun a ha=>by
   refine ih a ?_ (jG hn.2 ha)
   have:∀ (l:List T),a∈l->aR a<=aB l:=by
    intro l
    induction l with
    | nil=>intro h;cases h
    | cons b l ih2 =>
     intro h;rw [aB]
     rcases List.mem_cons.1 h with rfl | h
     ·omega
     ·have:=ih2 h;omega
   have:=this _ ha;omega
  have UZ:((fA t.kids).map fun y=>y.length+2).sum<=fO t.kids:=by
   have:∀ (l:List T),(∀ a∈l,(cP a).length+4<=jH a)->((fA l).map fun y=>y.length+2).sum<=fO l:=by
    intro l
    induction l with
    | nil=>intro _;simp [fA]
    | cons a l ih2 =>
     intro h;have h1:=h a (mem_cons_self)
     have h2:=ih2 fun b hb=>h b (mem_cons_of_mem _ hb)
     rw [fA,fO,List.map_cons,sum_cons];omega
   exact this _ hk
  have h0:((fA t.kids).getD 0 []).length<=fO t.kids:=by
   cases hl:t.kids with
   | nil=>simp [fA]
   | cons a r =>
    have:=hk a (by rw [hl];exact mem_cons_self);rw [fA,fO];simp;omega
  have h01:∀ a b r,t.kids=a::b::r->((fA t.kids).getD 0 []).length+((fA t.kids).getD 1 []).length+8<=fO t.kids:=fun a b r hl=>by
   have h1:=hk a (by rw [hl];exact mem_cons_self);have h2:=hk b (by rw [hl];exact mem_cons_of_mem _ mem_cons_self);rw [hl,fA,fA,fO,fO];simp;omega
  rw [N3,oP];unfold tD;split
  ·have:=xQ hn.1;omega
  ·split
   ·simp only [length_append,length_cons,length_nil];omega
   ·split
    ·have:=z6 (fA t.kids);simp only [length_append,length_cons,length_nil];omega
    ·split
     ·cases hl:t.kids with
      | nil=>simp <;> omega
      | cons a r =>
       simp only [length_append,length_cons,length_nil];have:=yl (a.n.kind==6) ((fA (a::r)).getD 0 []);rw [hl] at h0;omega
     ·split
      ·match hl:t.kids with
       | []=>simp <;> omega
       | [a]=>simp <;> omega
       | a::b::r =>
        have h1:=h01 a b r hl;rw [hl] at h1;have h2:=yl (lr a (ru t.n.s)) ((fA (a::b::r)).getD 0 []);have h3:=yl (lr b (ru t.n.s+1)) ((fA (a::b::r)).getD 1 []);simp only [length_append,length_cons,length_nil];omega
      ·omega
def xa (own:ai) (n:Nd) (k:Nat) (x b:List ai):ai :=
 if n.kind=13 then ((([118,97,114,32]++n.s)++[32,61,32])++x.getD 0 [])++[59]
 else if n.kind=7 then ((n.s++[32,61,32])++x.getD 0 [])++[59]
 else if n.kind=8 then ((((n.s++[91])++x.getD 0 [])++[93,32,61,32])++x.getD 1 [])++[59]
 else if n.kind=9 then (if k=3 then ((([105,102,32,40]++x.getD 0 [])++[41,32])++b.getD 1 [])++([32,101,108,115,101,32]++b.getD 2 []) else (([105,102,32,40]++x.getD 0 [])++[41,32])++b.getD 1 [])
 else if n.kind=10 then (([119,104,105,108,101,32,40]++x.getD 0 [])++[41,32])++b.getD 1 []
 else if n.kind=11 then ([114,101,116,117,114,110,32]++x.getD 0 [])++[59]
 else if n.kind=12 then x.getD 0 []++[59]
 else own
section
variable (tx:T->ai) (inl:List ai->Nat->ai)
mutual
def j0:Nat->T->ai
 | d,.mk n l=>xa (tx (.mk n l)) n l.length (l.map tx) (pF d l)
def pF:Nat->List T->List ai
 | _,[]=>[]
 | d,t::r=>mZ d t::pF d r
def mZ:Nat->T->ai
 | d,.mk n l=>inl (w9 (d+1) l) d
def w9:Nat->List T->List ai
 | _,[]=>[]
 | d,t::r=>j0 d t::w9 d r
end
end
theorem NX (tx:T->ai) (inl:List ai->Nat->ai) (d:Nat) (t:T):j0 tx inl d t=xa (tx t) t.n t.kids.length (t.kids.map tx) (pF tx inl d t.kids):=by cases t;rw [j0];rfl
theorem LA (tx:T->ai) (inl:List ai->Nat->ai) (d:Nat) (t:T):mZ tx inl d t=inl (w9 tx inl (d+1) t.kids) d:=by cases t;rw [mZ];rfl
theorem HE (tx:T->ai) (inl:List ai->Nat->ai) (d:Nat) (l:List T):pF tx inl d l=l.map (mZ tx inl d):=by
 induction l with
 | nil=>rfl
 | cons t l ih=>rw [pF,ih];rfl
theorem I3 (tx:T->ai) (inl:List ai->Nat->ai) (d:Nat) (l:List T):w9 tx inl d l=l.map (j0 tx inl d):=by
 induction l with
 | nil=>rfl
 | cons t l ih=>rw [w9,ih];rfl
def rF (acc:ai) (l:List ai):ai:=l.foldl (fun acc s=>acc++(s++[32])) acc
def fu (l:List ai) (d:Nat):ai:=rF [123,32] l++[125]
def kp:List ai->Nat
 | []=>0
 | s::l=>s.length+1+kp l
theorem sF (l:List ai):∀ acc,(rF acc l).length=acc.length+kp l:=by
 induction l with
 | nil=>intro acc;simp [rF,kp]
 | cons s l ih =>
  intro acc;have:=ih (acc++(s++[32]));simp only [rF,foldl_cons,kp,length_append,length_cons,length_nil] at this |-;omega
theorem Gk (a b:List ai):kp (a++b)=kp a+kp b:=by
 induction a with
 | nil=>simp [kp]
 | cons s a ih=>simp only [cons_append,kp,ih];omega
theorem NZ (l:List ai) (k:Nat):kp (l.take k)<=kp l:=by
 have:kp l=kp (l.take k)+kp (l.drop k):=by rw [<-Gk,take_append_drop]
 omega
theorem LI (acc:ai) (l:List ai) (s:ai):rF acc (l++[s])=rF acc l++(s++[32]):=by simp [rF]
theorem Tf {l:List ai} {s:ai} (h:s∈l):s.length<=kp l:=by
 induction l with
 | nil=>cases h
 | cons a l ih =>
  rw [kp]
  rcases List.mem_cons.1 h with rfl | h
  ·omega
  ·have:=ih h;omega
theorem Ps {l:List ai} {d:Nat} {s:ai} (h:s∈l):s.length<=(fu l d).length:=by
 have h1:=Tf h;have h2:=sF l [123,32];unfold fu;rw [length_append,h2];omega
def g1 (s:ai):ai:=([105,110,116,32]++s)++[59,10]
def a1 (a:Ar):ai:=((([105,110,116,32]++a.name)++[91])++nT a.size)++[93,59,10]
def f1 (tx:T->ai) (inl:List ai->Nat->ai) (x:Fn × T):ai:=((((([102,117,110,99,32]++x.1.name)++[40])++bD x.1.params)++[41,32])++mZ tx inl 0 x.2)++[10]
def de {α:Type} (f:α->ai):ai->List α->ai
 | acc,[]=>acc
 | acc,x::l=>de f (acc++f x) l
theorem xh {α:Type} (f:α->ai) (l:List α) (x:α):∀ acc,de f acc (l++[x])=de f acc l++f x:=by
 induction l with
 | nil=>intro acc;rfl
 | cons y l ih=>intro acc;simp only [cons_append,de];exact ih _
theorem OM {α:Type} (f:α->ai) (l k:List α):∀ acc,de f acc (l++k)=de f (de f acc l) k:=by
 induction l with
 | nil=>intro acc;rfl
 | cons y l ih=>intro acc;simp only [cons_append,de];exact ih _
theorem BS {α:Type} (f:α->ai) (l:List α):∀ acc,acc.length<=(de f acc l).length:=by
 induction l with
 | nil=>intro acc;exact Nat.le_refl _
 | cons y l ih=>intro acc;have:=ih (acc++f y);rw [de];rw [length_append] at this;omega
theorem xi {α:Type} (f:α->ai) (l:List α) (k:Nat) (acc:ai):(de f acc (l.take k)).length<=(de f acc l).length:=by
 have:de f acc l=de f (de f acc (l.take k)) (l.drop k):=by rw [<-OM,take_append_drop]
 rw [this];exact BS f _ _
def mU (tx:T->ai) (inl:List ai->Nat->ai) (p:Src) (trees:List T):ai:=de (f1 tx inl) (de a1 (de g1 [] p.globals) p.arrays) (p.fns.zip trees)
end Go.Im
namespace Go.Im
def fc {α:Type} (p:α->α->Bool):List α->List α->Bool
 | [],[]=>true
 | a::r,b::s=>p a b&&fc p r s
 | _,_=>false
theorem yr {α:Type} {p:α->α->Bool}:∀ {a b:List α},fc p a b=true->a.length=b.length
 | [],[],_=>rfl
 | a::r,b::s,h=>by rw [fc,Bool.and_eq_true] at h;rw [length_cons,length_cons,yr h.2]
 | [],b::s,h=>by cases h
 | a::r,[],h=>by cases h
theorem q9 {α:Type} {p:α->α->Bool} {a b:List α} (h:a.length≠b.length):fc p a b=false:=by
 cases hc:fc p a b with
 | false=>rfl
 | true=>exact absurd (yr hc) h
theorem EA {α:Type} {p:α->α->Bool}:∀ {a b:List α} {k:Nat} {x y:α},a[k]?=some x->b[k]?=some y->fc p a b=true->p x y=true
 | a::r,b::s,0,x,y,h1,h2,h=>by cases h1;cases h2;rw [fc,Bool.and_eq_true] at h;exact h.1
 | a::r,b::s,k+1,x,y,h1,h2,h=>by rw [fc,Bool.and_eq_true] at h;exact EA (by simpa using h1) (by simpa using h2) h.2
 | [],_,k,x,y,h1,h2,h=>by simp at h1
 | a::r,[],k,x,y,h1,h2,h=>by simp at h2
theorem ra {α:Type} {p:α->α->Bool} {a b:List α} {k:Nat} {x y:α} (h1:a[k]?=some x) (h2:b[k]?=some y) (h:p x y=false):fc p a b=false:=by
 cases hc:fc p a b with
 | false=>rfl
 | true=>have:=EA h1 h2 hc;rw [h] at this;cases this
theorem HO {α:Type} {p:α->α->Bool}:∀ {a b:List α},a.length=b.length->(∀ (k:Nat) x y,a[k]?=some x->b[k]?=some y->p x y=true)->fc p a b=true
 | [],[],_,_=>rfl
 | a::r,b::s,hl,h=>by
  rw [fc,h 0 a b rfl rfl,HO (by simpa using hl) fun k x y h1 h2=>h (k+1) x y (by simpa using h1) (by simpa using h2)];rfl
 | [],b::s,hl,h=>by simp at hl
 | a::r,[],hl,h=>by simp at hl
def sI {α:Type} (p:α->α->Bool) (a b:List α) (k:Nat):Prop:=∀ j x y,j < k->a[j]?=some x->b[j]?=some y->p x y=true
theorem lO {α:Type} {p:α->α->Bool} {a b:List α} {k:Nat} {x y:α} (h1:a[k]?=some x) (h2:b[k]?=some y) (h:sI p a b k) (hp:p x y=true):sI p a b (k+1):=fun j u v hj h3 h4=>by
 by_cases he:j=k
 ·subst he;rw [h1] at h3;rw [h2] at h4;cases h3;cases h4;exact hp
 ·exact h j u v aq h3 h4
theorem nt {α:Type} {p:α->α->Bool} {a b:List α} (hl:a.length=b.length) (h:sI p a b a.length):fc p a b=true :=
 HO hl fun k x y h1 h2=>h k x y (List.getElem?_eq_some_iff.1 h1).1 h1 h2
def qU (a b:Go.Sp.Fn):Bool:=((a.name==b.name)&&fc (fun x y=>x==y) a.params b.params)&&(a.body==b.body)
def kO (a b:Go.Xp.Nd):Bool:=(((a.kind==b.kind)&&(a.n==b.n))&&(a.s==b.s))&&fc (fun x y=>x==y) a.kids b.kids
def y7 (x y:Go.Xp.Ar):Bool:=(x.name==y.name)&&(x.size==y.size)
open Go.Xp Go.Sp
theorem HS (l:List T):(aP l).length=l.length:=by rw [sd,length_map]
theorem xm (t:T):(er t).n=⟨t.n.kind,0,t.n.n,t.n.s,[]⟩:=by cases t;rw [er];rfl
theorem Si (t:T):(er t).kids=aP t.kids:=by cases t;rw [er];rfl
mutual
theorem vC:∀ t:T,aR (er t)=aR t
 | .mk n l=>by rw [er,aR,aR,vB l]
theorem vB:∀ l:List T,aB (aP l)=aB l
 | []=>by rw [aP]
 | t::r=>by rw [aP,aB,aB,vC t,vB r]
end
theorem Dm (m:Nat):∀ (l:List T) (i:Nat),bp m i (aP l)=bp m i l
 | [],i=>by rw [aP]
 | t::r,i=>by rw [aP,bp,bp,Dm m r (i+1),xm]
theorem DI:∀ (l:List T),(aP l).all (fun x=>gi x.n.kind)=l.all (fun x=>gi x.n.kind)
 | []=>by rw [aP]
 | t::r=>by rw [aP,all_cons,all_cons,DI r,xm]
theorem Vw (n:Nd) (k:Nat) (kd:Nat->Bool) (bl:Bool) (h:0<=n.at_) (h':own ⟨n.kind,0,n.n,n.s,[]⟩ k kd bl=true):own n k kd bl=true:=by
 unfold own at h' |-;rw [if_neg (by simp)] at h';rw [if_neg (by simpa using h)];exact h'
mutual
theorem Lw:∀ t:T,c6 (er t)=true->xg t->c6 t=true
 | .mk n l,h,ha=>by
  rw [er,c6,Bool.and_eq_true] at h;rw [xg] at ha;rw [c6,Bool.and_eq_true];refine ⟨HC l h.1 ha.2,?_⟩;have h2:own ⟨n.kind,0,n.n,n.s,[]⟩ (aP l).length (fun m=>bp m 0 (aP l)) ((aP l).all fun x=>gi x.n.kind)=true:=h.2;rw [HS,DI] at h2;simp only [Dm] at h2;exact Vw n _ _ _ ha.1 h2
theorem HC:∀ l:List T,bX (aP l)=true->lX l->bX l=true
 | [],_,_=>rfl
 | t::r,h,ha=>by
  rw [aP,bX,Bool.and_eq_true] at h;rw [lX] at ha;rw [bX,Bool.and_eq_true];exact ⟨Lw t h.1 ha.1,HC r h.2 ha.2⟩
end
mutual
theorem Lv:∀ t:T,c6 t=true->xg t
 | .mk n l,h=>by
  rw [c6,Bool.and_eq_true] at h;rw [xg];refine ⟨?_,HB l h.1⟩;have h2:own n l.length (fun m=>bp m 0 l) (l.all fun x=>gi x.n.kind)=true:=h.2
  by_cases h0:n.at_ < 0
  ·unfold own at h2;rw [if_pos (by simpa using h0)] at h2;cases h2
  ·omega
theorem HB:∀ l:List T,bX l=true->lX l
 | [],_=>trivial
 | t::r,h=>by
  rw [bX,Bool.and_eq_true] at h;rw [lX];exact ⟨Lv t h.1,HB r h.2⟩
end
theorem kB (a:E):mA a.tree.n.kind=true:=by cases a <;> rfl
mutual
theorem E.fD:∀ a:E,a.ok=true->c6 a.tree=true
 | .num n,h=>by
  simp only [E.ok,Bool.and_eq_true] at h;rw [E.tree,c6,bX];simp [bO,own,T.n,T.kids];exact h
 | .name s,h=>by
  simp only [E.ok] at h;rw [E.tree,c6,bX];simp [bO,own,T.n,T.kids,h]
 | .at_ s a,h=>by
  simp only [E.ok,Bool.and_eq_true] at h;have h2:=E.fD a h.2;have h3:=kB a;rw [E.tree,c6,bX,bX,h2];simp [bO,own,T.n,T.kids,h.1,bp];exact h3
 | .call s l,h=>by
  simp only [E.ok,Bool.and_eq_true] at h;obtain ⟨h2,h3⟩:=E.rz l h.2;rw [E.tree,c6,h2];have:=h3 (E.trees l).length 0 aq;simp [bO,own,T.n,T.kids,h.1,this]
 | .un s a,h=>by
  simp only [E.ok,Bool.and_eq_true] at h;have h2:=E.fD a h.2;have h3:=kB a;rw [E.tree,c6,bX,bX,h2];simp [bO,own,T.n,T.kids,bp];exact ⟨by simpa using h.1,h3⟩
 | .bin s a b,h=>by
  simp only [E.ok,Bool.and_eq_true] at h;have h2:=E.fD a h.1.2;have h3:=kB a;have h4:=E.fD b h.2;have h5:=kB b;rw [E.tree,c6,bX,bX,bX,h2,h4];simp [bO,own,T.n,T.kids,bp,h.1.1];exact ⟨h3,h5⟩
theorem E.rz:∀ l:List E,E.cM l=true->bX (E.trees l)=true/\∀ m i,i+(E.trees l).length<=m->bp m i (E.trees l)=true
 | [],_=>⟨rfl,fun m i _=>rfl⟩
 | a::l,h=>by
  simp only [E.cM,Bool.and_eq_true] at h;obtain ⟨h2,h3⟩:=E.rz l h.2;refine ⟨by rw [E.trees,bX,E.fD a h.1,h2];rfl,fun m i hm=>?_⟩;rw [E.trees,length_cons] at hm;rw [E.trees,bp,if_pos aq,kB a,h3 m (i+1) aq];rfl
end
theorem VC (a:S):gi a.tree.n.kind=true:=by cases a <;> rfl
mutual
theorem S.fD:∀ a:S,a.ok=true->c6 a.tree=true
 | .set s a,h=>by
  simp only [S.ok,Bool.and_eq_true] at h;have h2:=E.fD a h.2;have h3:=kB a;rw [S.tree,c6,bX,bX,h2];simp [bO,own,T.n,T.kids,h.1,bp];exact h3
 | .var s a,h=>by
  simp only [S.ok,Bool.and_eq_true] at h;have h2:=E.fD a h.2;have h3:=kB a;rw [S.tree,c6,bX,bX,h2];simp [bO,own,T.n,T.kids,h.1,bp];exact h3
 | .ret a,h=>by
  simp only [S.ok] at h;have h2:=E.fD a h;have h3:=kB a;rw [S.tree,c6,bX,bX,h2];simp [bO,own,T.n,T.kids,bp];exact h3
 | .do_ a,h=>by
  simp only [S.ok] at h;have h2:=E.fD a h;have h3:=kB a;rw [S.tree,c6,bX,bX,h2];simp [bO,own,T.n,T.kids,bp];exact h3
 | .put s a b,h=>by
  simp only [S.ok,Bool.and_eq_true] at h;have h2:=E.fD a h.2.1;have h3:=kB a;have h4:=E.fD b h.2.2;have h5:=kB b;rw [S.tree,c6,bX,bX,bX,h2,h4];simp [bO,own,T.n,T.kids,bp,h.1];exact ⟨h3,h5⟩
 | .if1 c b,h=>by
  simp only [S.ok,Bool.and_eq_true] at h;have h2:=E.fD c h.1;have h3:=kB c;have h4:=S.uP b h.2;rw [S.tree,c6,bX,bX,bX,h2,h4];simp [bO,own,T.n,T.kids,bp];exact h3
 | .if2 c b b2,h=>by
  simp only [S.ok,Bool.and_eq_true] at h;have h2:=E.fD c h.1;have h3:=kB c;have h4:=S.uP b h.2.1;have h5:=S.uP b2 h.2.2;rw [S.tree,c6,bX,bX,bX,bX,h2,h4,h5];simp [bO,own,T.n,T.kids,bp];exact h3
 | .while_ c b,h=>by
  simp only [S.ok,Bool.and_eq_true] at h;have h2:=E.fD c h.1;have h3:=kB c;have h4:=S.uP b h.2;rw [S.tree,c6,bX,bX,bX,h2,h4];simp [bO,own,T.n,T.kids,bp];exact h3
theorem S.uP:∀ l:List S,S.cM l=true->c6 (.mk ⟨14,0,0,[],[]⟩ (S.trees l))=true
 | l,h=>by
  obtain ⟨h1,h2⟩:=S.rz l h;have h3:bO (.mk ⟨14,0,0,[],[]⟩ (S.trees l))=own ⟨14,0,0,[],[]⟩ (S.trees l).length (fun m=>bp m 0 (S.trees l)) ((S.trees l).all fun x=>gi x.n.kind):=rfl;rw [c6,h1,h3,h2];simp [own]
theorem S.rz:∀ l:List S,S.cM l=true->bX (S.trees l)=true/\(S.trees l).all (fun x=>gi x.n.kind)=true
 | [],_=>⟨rfl,rfl⟩
 | a::l,h=>by
  simp only [S.cM,Bool.and_eq_true] at h;obtain ⟨h1,h2⟩:=S.rz l h.2;exact ⟨by rw [S.trees,bX,S.fD a h.1,h1];rfl,by rw [S.trees,all_cons,h2,VC a];rfl⟩
end
theorem Xa {n:Nd} {k:Nat} {kd:Nat->Bool} {bl:Bool} (h:own n k kd bl=true):cV n.kind k=true:=by
 have hc:n.kind=1\/n.kind=2\/n.kind=3\/n.kind=4\/n.kind=5\/n.kind=6\/n.kind=7\/n.kind=8\/n.kind=9\/n.kind=10\/n.kind=11\/n.kind=12\/n.kind=13\/n.kind=14\/(n.kind < 1\/14 < n.kind):=by omega
 unfold own at h
 by_cases h0:decide (n.at_ < 0)=true
 ·rw [if_pos h0] at h;cases h
 rw [if_neg h0] at h
 by_cases h1:(n.kind != 1&&n.n != 0)=true
 ·rw [if_pos h1] at h;cases h
 rw [if_neg h1] at h;clear h0 h1
 rcases hc with hk | hk | hk | hk | hk | hk | hk | hk | hk | hk | hk | hk | hk | hk | hk
 all_goals (first | (simp [hk] at h;simp [cV,hk];done) | (simp [hk] at h;simp [cV,hk];omega) | (simp [hk] at h;simp [cV,hk,h];done) | skip)
 ·exfalso
  have e1:(n.kind==1)=false:=by simp;omega
  have e2:(n.kind==2)=false:=by simp;omega
  have e3:(n.kind==3)=false:=by simp;omega
  have e4:(n.kind==4)=false:=by simp;omega
  have e5:(n.kind==5)=false:=by simp;omega
  have e6:(n.kind==6)=false:=by simp;omega
  have e7:(n.kind==7)=false:=by simp;omega
  have e8:(n.kind==8)=false:=by simp;omega
  have e9:(n.kind==9)=false:=by simp;omega
  have Xq:(n.kind==10)=false:=by simp;omega
  have Z2:(n.kind==11)=false:=by simp;omega
  have Z3:(n.kind==12)=false:=by simp;omega
  have Z4:(n.kind==13)=false:=by simp;omega
  have Z5:(n.kind==14)=false:=by simp;omega
  rw [e1,e2,e3,e4,e5,e6,e7,e8,e9,Xq,Z2,Z3,Z4,Z5] at h;simp at h
mutual
theorem QG:∀ t:T,c6 t=true->fP t=true
 | .mk n l,h=>by
  rw [c6,Bool.and_eq_true] at h;rw [fP,Lx l h.1,Bool.and_true];exact Xa h.2
theorem Lx:∀ l:List T,bX l=true->uB l=true
 | [],_=>rfl
 | t::r,h=>by
  rw [bX,Bool.and_eq_true] at h;rw [uB,QG t h.1,Lx r h.2];rfl
end
theorem PN (t:T) (z:Int):lr (er t) z=lr t z:=by unfold lr;rw [xm]
theorem Tk (n:Nd) (l:List T) (x:List ai):tD ⟨n.kind,0,n.n,n.s,[]⟩ (aP l) x=tD n l x:=by
 unfold tD
 match l with
 | []=>rw [aP]
 | [a]=>rw [aP,aP];simp only [xm]
 | a::b::r=>rw [aP,aP];simp only [xm,PN]
mutual
theorem N4:∀ t:T,cP (er t)=cP t
 | .mk n l=>by rw [er,cP,cP,Cy l,Tk]
theorem Cy:∀ l:List T,fA (aP l)=fA l
 | []=>by rw [aP]
 | t::r=>by rw [aP,fA,fA,N4 t,Cy r]
end
mutual
theorem VI (inl:List ai->Nat->ai):∀ (t:T) (d:Nat),j0 cP inl d (er t)=j0 cP inl d t
 | .mk n l,d=>by
  have h:=N4 (.mk n l);rw [er] at h |-;rw [j0,j0,h,HD inl l d,HS]
  have:(aP l).map cP=l.map cP:=by rw [<-Cz,<-Cz,Cy]
  rw [this];rfl
theorem HD (inl:List ai->Nat->ai):∀ (l:List T) (d:Nat),pF cP inl d (aP l)=pF cP inl d l
 | [],d=>by rw [aP]
 | t::r,d=>by rw [aP,pF,pF,LB inl t d,HD inl r d]
theorem LB (inl:List ai->Nat->ai):∀ (t:T) (d:Nat),mZ cP inl d (er t)=mZ cP inl d t
 | .mk n l,d=>by rw [er,mZ,mZ,I2 inl l (d+1)]
theorem I2 (inl:List ai->Nat->ai):∀ (l:List T) (d:Nat),w9 cP inl d (aP l)=w9 cP inl d l
 | [],d=>by rw [aP]
 | t::r,d=>by rw [aP,w9,w9,VI inl t d,I2 inl r d]
end
theorem Nt {s:ai} (h:eA s=true):ru s=(dM s:Int):=by
 unfold ru dM
 cases hf:levels.findIdx? (fun l=>l.contains s) with
 | some i=>rfl
 | none =>
  rw [List.findIdx?_eq_none_iff] at hf;unfold eA at h;rw [any_eq_true] at h;obtain ⟨l,h1,h2⟩:=h;have:=hf l h1;rw [h2] at this;cases this
theorem IA {a:E} (h:a.ok=true) (k:Nat) (hk:k<=9):lr a.tree (k:Int)=decide (a.lv < k):=by
 have key:∀ b:Bool,(false&&b)=decide (9 < k):=fun b=>by rw [Bool.false_and,decide_eq_false aq]
 cases a with
 | bin s x y =>
  simp only [E.ok,Bool.and_eq_true] at h;show (true&&decide (ru s < (k:Int)))=decide (dM s < k);rw [Nt h.1.1,Bool.true_and];exact decide_eq_decide.2 aq
 | num n=>exact key _
 | name n=>exact key _
 | at_ s a=>exact key _
 | call s l=>exact key _
 | un s a=>exact key _
theorem BQ (lv k:Nat) (x:ai):tN (decide (lv < k)) x=qf lv k x:=by
 unfold tN qf
 by_cases h:lv < k
 ·rw [if_pos (by simpa using h),if_pos h]
 ·rw [if_neg (by simpa using h),if_neg h]
theorem TC {a:E} (h:a.ok=true):(a.tree.n.kind==6)=decide (a.lv < 9):=by
 cases a with
 | bin s x y =>
  simp only [E.ok,Bool.and_eq_true] at h;have:=(pk h.1.1).1;show true=decide (dM s < 9);exact (decide_eq_true this).symm
 | _=>rfl
mutual
theorem jb:∀ a:E,a.ok=true->cP a.tree=a.txt
 | .num n,h=>by
  simp only [E.ok,Bool.and_eq_true,decide_eq_true_eq] at h;rw [E.tree,cP,E.txt];unfold tD nT;simp only [if_true];rw [if_neg aq]
 | .name s,h=>by
  rw [E.tree,cP,E.txt];simp [tD]
 | .at_ s a,h=>by
  simp only [E.ok,Bool.and_eq_true] at h;have h2:=jb a h.2;rw [E.tree,cP,fA,fA,h2,E.txt];simp [tD]
 | .call s l,h=>by
  simp only [E.ok,Bool.and_eq_true] at h;rw [E.tree,cP,Ja l h.2,E.txt];simp [tD]
 | .un s a,h=>by
  simp only [E.ok,Bool.and_eq_true] at h;have h2:=jb a h.2;rw [E.tree,cP,fA,fA,h2,E.txt,<-BQ,<-TC h.2];simp [tD]
 | .bin s a b,h=>by
  simp only [E.ok,Bool.and_eq_true] at h;have h2:=jb a h.1.2;have h3:=jb b h.2;have hl:=(pk h.1.1).1;have e1:=IA h.1.2 (dM s) aq;have e2:=IA h.2 (dM s+1) aq;rw [E.tree,cP,fA,fA,fA,h2,h3,E.txt,<-BQ,<-BQ,<-e1,<-e2];unfold tD;simp only [Nt h.1.1];simp
theorem Ja:∀ l:List E,E.cM l=true->fA (E.trees l)=E.cL l
 | [],_=>rfl
 | a::l,h=>by
  simp only [E.cM,Bool.and_eq_true] at h;rw [E.trees,fA,E.cL,jb a h.1,Ja l h.2]
end
theorem CP (x:E->ai):∀ (l:List S) (acc:ai),rF acc (l.map (S.txt x))=S.cL x acc l
 | [],acc=>by rw [S.cL];rfl
 | a::l,acc=>by
  rw [S.cL,<-CP x l];simp [rF,append_assoc]
mutual
theorem Tc:∀ (s:S),s.ok=true->∀ d,j0 cP fu d s.tree=s.txt E.txt
 | .set s a,h,d=>by
  simp only [S.ok,Bool.and_eq_true] at h;rw [S.tree,j0,List.map_cons,jb a h.2,S.txt];simp [xa]
 | .var s a,h,d=>by
  simp only [S.ok,Bool.and_eq_true] at h;rw [S.tree,j0,List.map_cons,jb a h.2,S.txt];simp [xa]
 | .ret a,h,d=>by
  simp only [S.ok] at h;rw [S.tree,j0,List.map_cons,jb a h,S.txt];simp [xa]
 | .do_ a,h,d=>by
  simp only [S.ok] at h;rw [S.tree,j0,List.map_cons,jb a h,S.txt];simp [xa]
 | .put s a b,h,d=>by
  simp only [S.ok,Bool.and_eq_true] at h;rw [S.tree,j0,List.map_cons,List.map_cons,jb a h.2.1,jb b h.2.2,S.txt];simp [xa]
 | .if1 c b,h,d=>by
  simp only [S.ok,Bool.and_eq_true] at h;have hb:=uO b h.2 d;rw [S.tree,j0,List.map_cons,jb c h.1,pF,pF,pF,hb,S.txt];simp [xa,eU]
 | .if2 c b b2,h,d=>by
  simp only [S.ok,Bool.and_eq_true] at h;have hb:=uO b h.2.1 d;have eL:=uO b2 h.2.2 d;rw [S.tree,j0,List.map_cons,jb c h.1,pF,pF,pF,pF,hb,eL,S.txt];simp [xa,eU]
 | .while_ c b,h,d=>by
  simp only [S.ok,Bool.and_eq_true] at h;have hb:=uO b h.2 d;rw [S.tree,j0,List.map_cons,jb c h.1,pF,pF,pF,hb,S.txt];simp [xa,eU]
theorem uO:∀ (l:List S),S.cM l=true->∀ d,mZ cP fu d (.mk ⟨14,0,0,[],[]⟩ (S.trees l))=eU E.txt l
 | l,h,d=>by
  rw [mZ,I4 l h (d+1),fu,CP];rfl
theorem I4:∀ (l:List S),S.cM l=true->∀ d,w9 cP fu d (S.trees l)=l.map (S.txt E.txt)
 | [],_,d=>by rw [S.trees,w9];rfl
 | a::l,h,d=>by
  simp only [S.cM,Bool.and_eq_true] at h;rw [S.trees,w9,List.map_cons,Tc a h.1,I4 l h.2]
end
theorem qt {α:Type} {p:α->α->Bool} (h:∀ x,p x x=true):∀ l:List α,fc p l l=true
 | []=>rfl
 | a::l=>by rw [fc,h a,qt h l];rfl
theorem yo {α:Type} [BEq α] [LawfulBEq α]:∀ {a b:List α},fc (fun x y=>x==y) a b=true->a=b
 | [],[],_=>rfl
 | a::r,b::s,h=>by rw [fc,Bool.and_eq_true,beq_iff_eq] at h;rw [h.1,yo h.2]
 | [],b::s,h=>by cases h
 | a::r,[],h=>by cases h
theorem HP {α:Type} {p:α->α->Bool}:∀ {a b:List α} {c d:List α},a.length=b.length->fc p (a++c) (b++d)=(fc p a b&&fc p c d)
 | [],[],c,d,_=>rfl
 | a::r,b::s,c,d,h=>by rw [cons_append,cons_append,fc,fc,HP (by simpa using h),Bool.and_assoc]
 | [],b::s,_,_,h=>by simp at h
 | a::r,[],_,_,h=>by simp at h
theorem wb:∀ (l:List T) (a:Nat),bY a (aP l)=bY a l
 | [],a=>by rw [aP]
 | t::r,a=>by rw [aP,bY,bY,vC,wb r]
mutual
theorem Sm:∀ (t u:T) (a:Nat),er t=er u->fc kO (lP a t) (lP a u)=true
 | .mk n l,.mk m k,a,h=>by
  rw [er,er] at h
  injection h with h1 h2
  injection h1 with h3 h4 h5 h6 h7
  rw [lP,lP,fc,B1 l k (a+1) h2,Bool.and_true,<-wb l,<-wb k,h2];simp only [kO,h3,h5,h6];simp [qt]
theorem B1:∀ (l k:List T) (a:Nat),aP l=aP k->fc kO (eg a l) (eg a k)=true
 | [],[],a,_=>by rw [eg];rfl
 | t::r,u::s,a,h=>by
  rw [aP,aP] at h
  injection h with h1 h2
  have hz:aR t=aR u:=by rw [<-vC t,h1,vC u]
  rw [eg,eg,HP (by rw [HZ,HZ,hz]),Sm t u a h1,<-hz,B1 r s _ h2];rfl
 | [],u::s,a,h=>by rw [aP,aP] at h;cases h
 | t::r,[],a,h=>by rw [aP,aP] at h;cases h
end
mutual
theorem S9:∀ (t u:T) (a:Nat) (x y:List Nd),fc kO (lP a t++x) (lP a u++y)=true->er t=er u/\fc kO x y=true
 | .mk n l,.mk m k,a,x,y,h=>by
  rw [lP,lP,cons_append,cons_append,fc,Bool.and_eq_true] at h;obtain ⟨h1,h2⟩:=h;simp only [kO,Bool.and_eq_true,beq_iff_eq] at h1;obtain ⟨⟨⟨h3,h4⟩,h5⟩,h6⟩:=h1;have h7:=congrArg List.length (yo h6);rw [dY,dY] at h7;obtain ⟨h8,h9⟩:=Cw l k (a+1) x y h7 h2;exact ⟨by rw [er,er,h3,h4,h5,h8],h9⟩
theorem Cw:∀ (l k:List T) (a:Nat) (x y:List Nd),l.length=k.length->fc kO (eg a l++x) (eg a k++y)=true->aP l=aP k/\fc kO x y=true
 | [],[],a,x,y,_,h=>by rw [eg,nil_append,nil_append] at h;exact ⟨rfl,h⟩
 | t::r,u::s,a,x,y,hl,h=>by
  rw [eg,eg,append_assoc,append_assoc] at h;obtain ⟨h1,h2⟩:=S9 t u a _ _ h
  have hz:aR t=aR u:=by rw [<-vC t,h1,vC u]
  rw [<-hz] at h2;obtain ⟨h3,h4⟩:=Cw r s _ x y (by simpa using hl) h2;exact ⟨by rw [aP,aP,h1,h3],h4⟩
 | [],u::s,a,x,y,hl,h=>by simp at hl
 | t::r,[],a,x,y,hl,h=>by simp at hl
end
theorem S8 {l k:List T} (hl:l.length=k.length) (h:fc kO (eg 0 l) (eg 0 k)=true):aP l=aP k:=by
 have:=Cw l k 0 [] [] hl (by rw [append_nil,append_nil];exact h);exact this.1
structure PS where
 trees:List T
 globals:List ai
 arrays:List Ar
 fns:List (ai × List ai)
def PS.empty:PS:=⟨[],[],[],[]⟩
def oK:Nat->List ai->RS->Option (List ai × RS)
 | 0,_,_=>none
 | f+1,acc,p =>
  if p.code=0/\is p 0 [41]=false then oK f (acc++[(tok (if acc.length=0 then p else want p [44]) 0).s]) (br (if acc.length=0 then p else want p [44]))
  else some (acc,want p [41])
def iW (f:Nat) (p:RS) (st:PS):Option (RS × PS) :=
 if is p 0 lp=true then
  if (br p.next).code=0/\is (br p.next) 0 [91]=true then
   if (tok (br p.next).next 0).kind=1 then
    some (want (want (br p.next).next.next [93]) [59],{ st with arrays:=st.arrays++[⟨(tok p.next 0).s,(tok (br p.next).next 0).n⟩] })
   else some (kg (br p.next).next,st)
  else some (want (br p.next) [59],{ st with globals:=st.globals++[(tok p.next 0).s] })
 else if is p 0 mD=true then
  match oK f [] (want (br p.next) [40]) with
  | none=>none
  | some (l,q) =>
   if q.code=0 then match iS f (.block 1) q with
    | none=>none
    | some (t,q)=>some (q,{ st with trees:=st.trees++[t],fns:=st.fns++[((tok p.next 0).s,l)] })
   else some (q,st)
 else some (kg p,st)
def ni:Nat->Nat->RS->PS->Option (RS × PS)
 | 0,_,_,_=>none
 | g+1,f,p,st =>
  if p.code=0/\p.i < p.l.length then match iW f p st with
   | none=>none
   | some (p,st)=>ni g f p st
  else some (p,st)
theorem M2:∀ (f:Nat) (acc:List ai) (p:RS) (l:List ai) (q:RS),p.ok->oK f acc p=some (l,q)->p.to q
 | 0,_,_,_,_,_,h=>by cases h
 | f+1,acc,p,l,q,hp,h=>by
  rw [oK] at h;split at h
  ·have h1:p.to (if acc.length=0 then p else want p [44]):=by split;exact jJ hp;exact cn hp _
   have h2:=gL (h1.ok hp);have h3:=M2 f _ _ l q ((h1.trans h2).ok hp) h;exact (h1.trans h2).trans h3
  ·cases h;exact cn hp _
theorem WE {f:Nat} {p q:RS} {st dT:PS} (hp:p.ok) (h:iW f p st=some (q,dT)):p.to q:=by
 unfold iW at h;split at h
 ·rename_i hi;have h1:=jz hi;have h2:=h1.trans (gL (h1.ok hp));split at h
  ·rename_i hb;have h3:=h2.trans (jz hb.2);split at h
   ·rename_i hk
    have lz:(tok (br p.next).next 0).kind≠0:=by rw [hk];decide
    have h4:=h3.trans (dw (by have:=ry lz;exact this));have h5:=h4.trans (cn (h4.ok hp) [93])
    cases h;exact h5.trans (cn (h5.ok hp) _)
   ·cases h;exact h3.trans (wF (h3.ok hp))
  ·cases h;exact h2.trans (cn (h2.ok hp) _)
 ·split at h
  ·rename_i hi;have h1:=jz hi;have h2:=h1.trans (gL (h1.ok hp));have h3:=h2.trans (cn (h2.ok hp) [40])
   cases hm:oK f [] (want (br p.next) [40]) with
   | none=>rw [hm] at h;cases h
   | some r =>
    obtain ⟨l,q1⟩:=r;rw [hm] at h;simp only at h;have h4:=h3.trans (M2 _ _ _ _ _ (h3.ok hp) hm);split at h
    ·cases hb:iS f (.block 1) q1 with
     | none=>rw [hb] at h;cases h
     | some r =>
      obtain ⟨t,q2⟩:=r;rw [hb] at h;cases h;exact h4.trans ((D1 f).1 _ _ _ _ (h4.ok hp) hb)
    ·cases h;exact h4
  ·cases h;exact wF hp
structure PS.le (a:PS) (n:Nat):Prop where
 trees:a.trees.length<=n
 globals:a.globals.length<=n
 arrays:a.arrays.length<=n
 fns:a.fns.length=a.trees.length
theorem WC {f n:Nat} {p q:RS} {st dT:PS} (h:iW f p st=some (q,dT)) (hs:st.le n):dT.le (n+1):=by
 obtain ⟨a,b,c,d⟩:=hs;have key:st.le (n+1):=⟨by omega,by omega,by omega,d⟩;unfold iW at h;split at h
 ·split at h
  ·split at h
   ·cases h;exact ⟨by simp;omega,by simp;omega,by simp;omega,by simp;omega⟩
   ·cases h;exact key
  ·cases h;exact ⟨by simp;omega,by simp;omega,by simp;omega,by simp;omega⟩
 ·split at h
  ·split at h
   ·cases h
   ·split at h
    ·split at h
     ·cases h
     ·cases h;exact ⟨by simp;omega,by simp;omega,by simp;omega,by simp;omega⟩
    ·cases h;exact key
  ·cases h;exact key
end Go.Im
namespace Go.Sp
open Go.Xp
inductive Tz (s:ai):Nat->List Tok->Nat->Prop
 | nil (a:Nat):Tz s a [] a
 | blank {a b:Nat} {c:UInt8} {ts:List Tok} (hc:s[a]?=some c) (hb:dD c=true) (h:Tz s (a+1) ts b):Tz s a ts b
 | tok {a a' b:Nat} {c:UInt8} {t:Tok} {ts:List Tok} (hc:s[a]?=some c) (hb:dD c=false) (hr:bA s a [47,42]=false) (ht:iK s a c=(t,a')) (hk:t.kind=1\/t.kind=2\/t.kind=3) (hn:t.n<=2147483647) (ha:a < a') (h:Tz s a' ts b):Tz s a (t::ts) b
theorem Tz.app {s:ai} {a b c:Nat} {ts us:List Tok} (h:Tz s a ts b) (k:Tz s b us c):Tz s a (ts++us) c:=by
 induction h with
 | nil a=>exact k
 | blank hc hb h ih=>exact .blank hc hb (ih k)
 | tok hc hb hr ht hk hn ha h ih=>exact .tok hc hb hr ht hk hn ha (ih k)
theorem Tz.kinds {s:ai} {a b:Nat} {ts:List Tok} (h:Tz s a ts b):∀ t∈ts,t.kind=1\/t.kind=2\/t.kind=3:=by
 induction h with
 | nil a=>intro t h;cases h
 | blank hc hb h ih=>exact ih
 | tok hc hb hr ht hk hn ha h ih =>
  intro t h
  rcases List.mem_cons.1 h with rfl | h
  ·exact hk
  ·exact ih t h
theorem Tz.len {s:ai} {a b:Nat} {ts:List Tok} (h:Tz s a ts b):a+ts.length<=b:=by
 induction h with
 | nil a=>simp
 | blank hc hb h ih=>omega
 | tok hc hb hr ht hk hn ha h ih=>simp only [length_cons];omega
theorem NT (s:ai):∀ (f f' a:Nat),a<=s.length->s.length < f+a->s.length < f'+a->skip s f a=skip s f' a:=by
 intro f
 induction f with
 | zero=>intro f' a h1 h2;omega
 | succ f ih =>
  intro f' a h1 h2 h3;obtain ⟨f',rfl⟩:∃ g,f'=g+1:=⟨f' - 1,by omega⟩;rw [skip,skip]
  cases hc:s[a]? with
  | none=>rfl
  | some c =>
   simp only;have ao:=(List.getElem?_eq_some_iff.1 hc).1;split
   ·exact ih f' (a+1) aq aq aq
   ·split
    ·rename_i hb;have hb:=jt hb;have hb:a+2<=s.length:=hb;have h4:=rV s s.length (a+2) hb;have h5:=qP s s.length (a+2) hb aq;split
     ·rfl
     ·rename_i hn
      have h6:bA s (eQ s s.length (a+2)) [42,47]=true:=by
       cases n8:bA s (eQ s s.length (a+2)) [42,47] with
       | true=>rfl
       | false=>exact absurd ⟨by omega,n8⟩ h5
      have h6:=jt h6;have h6:eQ s s.length (a+2)+2<=s.length:=h6;exact ih f' _ aq aq aq
    ·rfl
theorem Tz.iz {s:ai} {a b:Nat} {ts:List Tok} (h:Tz s a ts b):∀ (f:Nat) (acc:List Tok),qb s (f+ts.length) (skip s (s.length+1) a).1 acc=qb s f (skip s (s.length+1) b).1 (acc++ts):=by
 induction h with
 | nil a=>intro f acc;simp
 | blank hc hb h ih =>
  rename_i a b c ts;intro f acc;have ao:=(List.getElem?_eq_some_iff.1 hc).1;rw [<-ih f acc]
  have:skip s (s.length+1) a=skip s (s.length+1) (a+1):=by
   rw [skip,hc];simp only;rw [if_pos hb];exact NT s _ _ _ aq aq aq
  rw [this]
 | tok hc hb hr ht hk hn ha h ih =>
  rename_i a a' b c t ts;intro f acc
  have:skip s (s.length+1) a=(a,-1):=by
   rw [skip,hc];simp only;rw [if_neg (by rw [hb];decide),if_neg (by rw [hr];decide)]
  rw [this,length_cons,<-Nat.add_assoc,qb,hc];simp only [ht];rw [ih f (acc++[t]),append_assoc];rfl
theorem Tz.all {s:ai} {ts:List Tok} (h:Tz s 0 ts s.length):Go.Sp.iz s=some ts:=by
 have h1:=h.len;have h2:=h.iz (s.length+2 - ts.length) [];unfold Go.Sp.iz;rw [show s.length+2 - ts.length+ts.length=s.length+2 by omega] at h2;rw [h2]
 have h3:skip s (s.length+1) s.length=(s.length,-1):=by rw [skip];simp
 rw [h3];obtain ⟨g,hg⟩:∃ g,s.length+2 - ts.length=g+1:=⟨s.length+1 - ts.length,by omega⟩;rw [hg,qb];simp
theorem mJ {s r:ai} {a:Nat} {c:UInt8} (h:s.drop a=c::r):s[a]?=some c/\s.drop (a+1)=r/\a < s.length:=by
 have h1:s[a]?=some c:=by
  have:=List.getElem?_drop (xs:=s) (i:=a) (j:=0);rw [h] at this;simpa using this.symm
 refine ⟨h1,?_,(List.getElem?_eq_some_iff.1 h1).1⟩;rw [<-List.tail_drop,h];rfl
theorem S5 (s:ai) (p:UInt8->Bool):∀ (w post:ai) (f a:Nat),s.drop a=w++post->(∀ c∈w,p c=true)->run s p (f+w.length) a=run s p f (a+w.length):=by
 intro w
 induction w with
 | nil=>intro post f a h hp;rfl
 | cons c w ih =>
  intro post f a h hp;obtain ⟨h1,h2,_⟩:=mJ h;rw [length_cons,<-Nat.add_assoc,run,h1];simp only;rw [if_pos (hp c (mem_cons_self)),ih post f (a+1) h2 (fun c hc=>hp c (mem_cons_of_mem _ hc))]
  congr 1;omega
theorem P6 (s:ai) (p:UInt8->Bool) (post:ai) (f a:Nat) (h:s.drop a=post) (hp:∀ c,post.head?=some c->p c=false):run s p f a=a:=by
 cases f with
 | zero=>rfl
 | succ f =>
  rw [run]
  cases post with
  | nil =>
   have:s[a]?=none:=by
    rw [List.getElem?_eq_none_iff];have:=congrArg List.length h;simp at this;omega
   rw [this]
  | cons c r =>
   obtain ⟨h1,_,_⟩:=mJ h;rw [h1];simp only;rw [if_neg (by rw [hp c rfl];decide)]
theorem take_drop {s w post:ai} {a:Nat} (h:s.drop a=w++post):(s.take (a+w.length)).drop a=w:=by
 rw [List.drop_take,h,Nat.add_sub_cancel_left,List.take_left]
theorem FC {s w post:ai} {a:Nat} (h:s.drop a=w++post) (ha:a<=s.length):a+w.length+post.length=s.length:=by
 have:=congrArg List.length h;simp only [length_drop,length_append] at this;omega
theorem QA {s w post:ai} {a:Nat} {c:UInt8} {r:ai} (ha:a<=s.length) (h:s.drop a=w++post) (hw:w=c::r) (hs:small c=true) (aM:∀ c∈w,dN c=true) (hp:∀ c,post.head?=some c->dN c=false) :
  iK s a c=(⟨if words.contains w=true then 3 else 2,0,w,a⟩,a+w.length):=by
 have hl:=FC h ha
 have he:eB s a=a+w.length:=by
  unfold eB;obtain ⟨g,hg⟩:∃ g,s.length+1=g+w.length:=⟨s.length+1 - w.length,by omega⟩;rw [hg,S5 s dN w post g a h aM];refine P6 s dN post g _ ?_ hp;rw [<-List.drop_drop,h,drop_left]
 have hd:dW c=false:=by
  simp only [small,dW,Bool.and_eq_true] at hs |-;have h1:=of_decide_eq_true hs.1
  have:¬ ((c.toNat:Int)<=57):=by omega
  simp [this]
 unfold iK;rw [if_neg (by rw [hd];decide),if_pos hs];unfold eZ;rw [he,take_drop h]
def fold (n:Int) (w:ai):Int:=w.foldl (fun n c=>if n<=2147483647 then n * 10+((c.toNat:Int) - 48) else n) n
theorem Ks (s:ai):∀ (w post:ai) (f:Nat) (n:Int) (a:Nat),s.drop a=w++post->(∀ c∈w,dW c=true)->number s (f+w.length) n a=number s f (fold n w) (a+w.length):=by
 intro w
 induction w with
 | nil=>intro post f n a h hp;rfl
 | cons c w ih =>
  intro post f n a h hp;obtain ⟨h1,h2,_⟩:=mJ h;rw [length_cons,<-Nat.add_assoc,number,h1];simp only;rw [if_pos (hp c (mem_cons_self)),ih post f _ (a+1) h2 (fun c hc=>hp c (mem_cons_of_mem _ hc))];rw [show a+1+w.length=a+(w.length+1) by omega];rfl
theorem Hl (s:ai) (post:ai) (f:Nat) (n:Int) (a:Nat) (h:s.drop a=post) (hp:∀ c,post.head?=some c->dW c=false):number s f n a=(n,a):=by
 cases f with
 | zero=>rfl
 | succ f =>
  rw [number]
  cases post with
  | nil =>
   have:s[a]?=none:=by
    rw [List.getElem?_eq_none_iff];have:=congrArg List.length h;simp at this;omega
   rw [this]
  | cons c r =>
   obtain ⟨h1,_,_⟩:=mJ h;rw [h1];simp only;rw [if_neg (by rw [hp c rfl];decide)]
theorem LW (k:Nat) (h:k<=9):dW (UInt8.ofNat (48+k))=true/\((UInt8.ofNat (48+k)).toNat:Int)=48+k:=by
 have:(UInt8.ofNat (48+k)).toNat=48+k:=by simp;omega
 refine ⟨?_,by rw [this];omega⟩;simp only [dW,Bool.and_eq_true,this];exact ⟨decide_eq_true aq,decide_eq_true aq⟩
theorem HK (n:Nat):(∀ c∈cE n,dW c=true)/\(n<=2147483647->fold 0 (cE n)=n)/\cE n≠[]:=by
 induction n using Nat.strongRecOn with
 | _ n ih =>
 unfold cE
 by_cases h:n < 10
 ·rw [dif_pos h];obtain ⟨h1,h2⟩:=LW n aq;refine ⟨fun c hc=>by rw [mem_singleton] at hc;subst hc;exact h1,fun _=>?_,by simp⟩;simp only [fold,foldl_cons,List.foldl_nil];rw [if_pos aq,h2];omega
 ·rw [dif_neg h];obtain ⟨h1,h2,h3⟩:=ih (n / 10) aq;obtain ⟨h4,h5⟩:=LW (n % 10) aq;refine ⟨fun c hc=>?_,fun hn=>?_,by simp⟩
  ·rcases List.mem_append.1 hc with hc | hc
   ·exact h1 c hc
   ·rw [mem_singleton] at hc;subst hc;exact h4
  ·have:=h2 aq;unfold fold at this |-;rw [List.foldl_append,this];simp only [foldl_cons,List.foldl_nil];rw [if_pos aq,h5];omega
theorem SQ {s post:ai} {n a:Nat} {c:UInt8} {r:ai} (ha:a<=s.length) (h:s.drop a=cE n++post) (hw:cE n=c::r) (hn:n<=2147483647) (hp:∀ c,post.head?=some c->dW c=false) :
  iK s a c=(⟨1,n,[],a⟩,a+(cE n).length):=by
 obtain ⟨h1,h2,h3⟩:=HK n;have hl:=FC h ha;have hd:dW c=true:=h1 c (by rw [hw];exact mem_cons_self);obtain ⟨g,hg⟩:∃ g,s.length+1=g+(cE n).length:=⟨s.length+1 - (cE n).length,by omega⟩;unfold iK;rw [if_pos hd,hg,Ks s (cE n) post g 0 a h h1,h2 hn,Hl s post g _ _ (by rw [<-List.drop_drop,h,drop_left]) hp]
theorem uu {s r t:ai} {a:Nat} (h:s.drop a=r) (ha:a<=s.length):bA s a t=t.isPrefixOf r:=by
 have hl:a+r.length=s.length:=by have:=congrArg List.length h;simp at this;omega
 unfold bA;rw [List.drop_take,h,Nat.add_sub_cancel_left]
 by_cases hp:t <+: r
 ·obtain ⟨z,rfl⟩:=hp;simp only [length_append] at hl
  have h2:t.isPrefixOf (t++z)=true:=by rw [List.isPrefixOf_iff_prefix];exact ⟨z,rfl⟩
  rw [h2,List.take_left];simp only [Bool.and_eq_true,beq_self_eq_true,and_true,decide_eq_true_eq];omega
 ·have h1:t.isPrefixOf r=false:=by
   cases hh:t.isPrefixOf r with
   | false=>rfl
   | true=>exact absurd (List.isPrefixOf_iff_prefix.1 hh) hp
  rw [h1]
  have h2:(r.take t.length==t)=false:=by
   rw [beq_eq_false_iff_ne];intro h3;exact hp ⟨r.drop t.length,by have:=take_append_drop t.length r;rw [h3] at this;exact this⟩
  rw [h2,Bool.and_false]
def Cu:List UInt8:=[32,40,41,91,93,44,59,123,125,10]
def Sep (post:ai):Prop:=∀ c,post.head?=some c->c∈Cu
theorem Sep.dN {post:ai} (h:Sep post):∀ c,post.head?=some c->dN c=false:=by
 intro c hc
 have:∀ c∈Cu,Go.Sp.dN c=false:=by decide
 exact this c (h c hc)
theorem Sep.dW {post:ai} (h:Sep post):∀ c,post.head?=some c->dW c=false:=by
 intro c hc
 have:∀ c∈Cu,Go.Sp.dW c=false:=by decide
 exact this c (h c hc)
theorem SX {x y z:ai} (h:x.length<=y.length):x.isPrefixOf (y++z)=x.isPrefixOf y:=by
 induction x generalizing y with
 | nil=>simp
 | cons a x ih =>
  cases y with
  | nil=>simp at h
  | cons b y=>simp only [cons_append,List.isPrefixOf];rw [ih (by simpa using h)]
theorem find_congr {α:Type} {p q:α->Bool}:∀ {l:List α},(∀ x∈l,p x=q x)->l.find? p=l.find? q
 | [],_=>rfl
 | a::l,h=>by rw [List.find?_cons,List.find?_cons,h a (mem_cons_self),find_congr (fun x hx=>h x (mem_cons_of_mem _ hx))]
theorem Qc {s w post:ai} {a:Nat} {c:UInt8} {r:ai} (ha:a<=s.length) (h:s.drop a=w++post) (hw:w=c::r) (hm:w∈bI) (hp:Sep post) :
  iK s a c=(⟨3,0,w,a⟩,a+w.length)/\dD c=false/\bA s a [47,42]=false:=by
 have hd:∀ w∈bI,∀ c,w.head?=some c->dW c=false/\small c=false/\dD c=false:=by
  have:∀ w∈bI,(match w.head? with | some c=>!dW c&&!small c&&!dD c | none=>true)=true:=by decide
  intro w hw c hc;have:=this w hw;rw [hc] at this;simp only [Bool.and_eq_true,Bool.not_eq_true'] at this;exact ⟨this.1.1,this.1.2,this.2⟩
 obtain ⟨h1,h2,h3⟩:=hd w hm c (by rw [hw];rfl)
 have JV:∀ w∈bI,w.length<=2/\1<=w.length:=by decide
 have key:∀ w∈bI,bI.find? (fun x=>x.isPrefixOf w)=some w/\[47,42].isPrefixOf w=false:=by decide
 have Zy:∀ w∈bI,∀ c∈Cu,bI.find? (fun x=>x.isPrefixOf (w++[c]))=some w/\[47,42].isPrefixOf (w++[c])=false:=by decide
 have hf:bI.find? (bA s a)=some w/\bA s a [47,42]=false:=by
  have e1:∀ x,bA s a x=x.isPrefixOf (w++post):=fun x=>uu h ha
  have e2:bI.find? (bA s a)=bI.find? (fun x=>x.isPrefixOf (w++post)):=find_congr fun x _=>e1 x
  rw [e2,e1]
  cases post with
  | nil=>rw [append_nil];exact key w hm
  | cons c' post =>
   have dq:=hp c' rfl
   have e3:∀ x:ai,x.length<=2->x.isPrefixOf (w++c'::post)=x.isPrefixOf (w++[c']):=fun x hx=>by
    rw [show w++c'::post=(w++[c'])++post by simp];exact SX (by rw [length_append];have:=(JV w hm).2;simp;omega)
   rw [find_congr fun x hx=>e3 x (JV x hx).1,e3 _ av];exact Zy w hm c' dq
 refine ⟨?_,h3,hf.2⟩;unfold iK;rw [if_neg (by rw [h1];decide),if_neg (by rw [h2];decide),hf.1]
theorem O6 {s post:ai} {a:Nat} {c:UInt8} (ha:a<=s.length) (h:s.drop a=c::post) (hm:c∈[40,41,91,93,44,59,123,125]) :
  iK s a c=(⟨3,0,[c],a⟩,a+1)/\dD c=false/\bA s a [47,42]=false:=by
 have hd:∀ c∈([40,41,91,93,44,59,123,125]:List UInt8),dW c=false/\small c=false/\dD c=false/\c≠47:=by decide
 obtain ⟨h1,h2,h3,h4⟩:=hd c hm
 have e1:∀ x,bA s a x=x.isPrefixOf (c::post):=fun x=>uu h ha
 have e2:bI.find? (bA s a)=bI.find? (fun x=>x.isPrefixOf (c::post)):=find_congr fun x _=>e1 x
 have key:∀ post:ai,∀ c∈([40,41,91,93,44,59,123,125]:List UInt8),bI.find? (fun x=>x.isPrefixOf (c::post))=some [c]:=by
  intro post c hc;simp only [List.mem_cons,List.not_mem_nil,or_false] at hc
  rcases hc with rfl | rfl | rfl | rfl | rfl | rfl | rfl | rfl <;> rfl
 refine ⟨?_,h3,?_⟩
 ·unfold iK;rw [if_neg (by rw [h1];decide),if_neg (by rw [h2];decide),e2,key post c hm];rfl
 ·rw [e1];simp only [List.isPrefixOf]
  have:((47:UInt8)==c)=false:=by rw [beq_eq_false_iff_ne];exact fun h=>h4 h.symm
  rw [this,Bool.false_and]
end Go.Sp
namespace Go.Im
open Go.Xp Go.Sp
def lI:List ai:=[[105,110,116],[118,97,114],[102,117,110,99],[105,102],[101,108,115,101],[119,104,105,108,101],[114,101,116,117,114,110],[124,124],[38,38],[61,61],[33,61],[60,61],[62,61],[60,60],[62,62],[40],[41],[123],[125],[91],[93],[44],[59],[61],[60],[62],[43],[45],[42],[47],[37],[38],[124],[94],[33],[126]]
theorem x9:lI=words++bI:=by decide
def jT (s:ai):Bool:=lI.contains s
def jX:ai->Int->Int
 | [],n=>n
 | c::r,n=>if n<=2147483647 then jX r (10 * n+((c.toNat:Int) - 48)) else n
def cD (s:ai) (a b:Nat):ai:=(s.take b).drop a
def gn (s:ai) (a:Nat) (k:Nat):Bool:=decide (a+k<=s.length)&&(match s[a]? with | some c=>!(small c) | none=>false)&&jT (cD s a (a+k))
def fK (s:ai) (a:Nat):ai:=if gn s a 2=true then cD s a (a+2) else if gn s a 1=true then cD s a (a+1) else []
def jM (s:ai) (a:Nat):Nat:=run s dW (s.length+1) a
def p9:Tok:=⟨0,0,[],0⟩
def kq (s:ai) (a:Nat) (c:UInt8):Tok × Nat × Int :=
 if dW c=true then
  if jX (cD s a (jM s a)) 0 > 2147483647 then (p9,a,3) else (⟨1,jX (cD s a (jM s a)) 0,[],a⟩,jM s a,0)
 else if small c=true then (⟨if jT (eZ s a)=true then 3 else 2,0,eZ s a,a⟩,eB s a,0)
 else if fK s a=[] then (p9,a,2)
 else (⟨3,0,fK s a,a⟩,a+(fK s a).length,0)
def pO:ai->Option Nat
 | []=>none
 | b::l=>if List.isPrefixOf [42,47] (b::l) then some 0 else match pO l with | none=>none | some n=>some (n+1)
def mV (s:ai):Nat->Nat->List Tok->Option (List Tok × Int × Int)
 | 0,_,_=>none
 | f+1,a,acc=>match s[a]? with
  | none=>some (acc,0,0)
  | some c =>
   if dD c=true then mV s f (a+1) acc
   else if bA s a [47,42]=true then
    match pO (s.drop (a+2)) with
    | none=>some ([],4,a)
    | some n=>mV s f (a+(n+4)) acc
   else if (kq s a c).2.2≠0 then some ([],(kq s a c).2.2,a)
   else mV s f (kq s a c).2.1 (acc++[(kq s a c).1])
structure Aw (t:Tok):Prop where
 num:t.kind=1->0<=t.n/\t.n<=2147483647/\t.s=[]
 name:t.kind=2->word t.s=true/\jT t.s=false
 sign:t.kind=3->jT t.s=true
 kinds:t.kind=1\/t.kind=2\/t.kind=3
theorem kV {s:ai} {a b:Nat} (h:b<=s.length):(cD s a b).length=b - a:=by
 unfold cD;rw [length_drop,length_take];omega
theorem pe {s:ai} {a b:Nat} {c:UInt8} (h:s[a]?=some c) (hb:a < b) (hl:b<=s.length):cD s a b=c::cD s (a+1) b:=by
 unfold cD;have ao:=(List.getElem?_eq_some_iff.1 h).1
 have:(s.take b)[a]?=some c:=by rw [getElem?_take,if_pos hb];exact h
 have h2:=(List.getElem?_eq_some_iff.1 this);rw [List.drop_eq_getElem_cons h2.1,h2.2]
theorem Cr (s:ai) (p:UInt8->Bool):∀ (f a:Nat),a<=s.length->∀ c∈cD s a (run s p f a),p c=true:=by
 intro f
 induction f with
 | zero =>
  intro a ha c hc;rw [Go.Sp.run] at hc
  have:(cD s a a).length=0:=by rw [kV ha];omega
  rw [eq_nil_of_length_eq_zero this] at hc;cases hc
 | succ f ih =>
  intro a ha c hc;rw [Go.Sp.run] at hc
  have Fg:∀ x:ai,x=cD s a a->c∈x->p c=true:=fun x hx hm=>by
   have:(cD s a a).length=0:=by rw [kV ha];omega
   rw [hx,eq_nil_of_length_eq_zero this] at hm;cases hm
  cases hq:s[a]? with
  | none=>rw [hq] at hc;exact Fg _ rfl hc
  | some d =>
   rw [hq] at hc;simp only at hc;have ao:=(List.getElem?_eq_some_iff.1 hq).1
   by_cases hp:p d=true
   ·rw [if_pos hp] at hc
    have ly:a+1<=Go.Sp.run s p f (a+1)/\Go.Sp.run s p f (a+1)<=s.length:=by
     have:∀ (f a:Nat),a<=s.length->a<=Go.Sp.run s p f a/\Go.Sp.run s p f a<=s.length:=by
      intro f
      induction f with
      | zero=>intro a h;exact ⟨Nat.le_refl _,h⟩
      | succ f ih =>
       intro a h;rw [Go.Sp.run]
       cases hq:s[a]? with
       | none=>exact ⟨Nat.le_refl _,h⟩
       | some d =>
        simp only;split
        ·have:=ih (a+1) (List.getElem?_eq_some_iff.1 hq).1;omega
        ·exact ⟨Nat.le_refl _,h⟩
     exact this f (a+1) ao
    rw [pe hq aq ly.2] at hc
    rcases List.mem_cons.1 hc with rfl | hc
    ·exact hp
    ·exact ih (a+1) ao c hc
   ·rw [if_neg hp] at hc;exact Fg _ rfl hc
theorem IM:∀ (w:ai) (n:Int),0<=n->(∀ c∈w,dW c=true)->0<=jX w n
 | [],n,h,_=>h
 | c::r,n,h,hd=>by
  rw [jX];have hc:=hd c (mem_cons_self);simp only [dW,Bool.and_eq_true,decide_eq_true_eq] at hc;split
  ·exact IM r _ aq (fun c hc=>hd c (mem_cons_of_mem _ hc))
  ·exact h
theorem Pv {x:ai} (h:jT x=true):x≠[]:=by
 intro h0;subst h0;revert h;decide
theorem Jc {s:ai} {a:Nat} {c:UInt8} (hc:s[a]?=some c) (h0:(kq s a c).2.2=0):Aw (kq s a c).1/\(kq s a c).1.at_=a/\a < (kq s a c).2.1/\(kq s a c).2.1<=s.length:=by
 have ao:=(List.getElem?_eq_some_iff.1 hc).1;unfold kq at h0 |-
 by_cases hd:dW c=true
 ·rw [if_pos hd] at h0 |-
  by_cases hn:jX (cD s a (jM s a)) 0 > 2147483647
  ·rw [if_pos hn] at h0;cases h0
  ·rw [if_neg hn];obtain ⟨e1,e2,e3⟩:=py s dW (s.length+1) a aq aq
   have zf:a < jM s a:=by
    rcases Nat.lt_or_ge a (jM s a) with h | h
    ·exact h
    ·have he:Go.Sp.run s dW (s.length+1) a=a:=by unfold jM at h;omega
     have:=e1 c (by rw [he];exact hc);rw [hd] at this;cases this
   refine ⟨⟨fun _=>⟨IM _ _ av (Cr s dW _ a aq),by simpa using hn,rfl⟩,fun h=>by simp at h,fun h=>by simp at h,.inl rfl⟩,rfl,zf,e3⟩
 ·rw [if_neg hd] at h0 |-
  by_cases hs:small c=true
  ·rw [if_pos hs];obtain ⟨e1,e2,e3⟩:=py s dN (s.length+1) a aq aq
   have tV:dN c=true:=by simp [dN,hs]
   have zf:a < eB s a:=by
    rcases Nat.lt_or_ge a (eB s a) with h | h
    ·exact h
    ·have he:Go.Sp.run s dN (s.length+1) a=a:=by unfold eB at h;omega
     have:=e1 c (by rw [he];exact hc);rw [tV] at this;cases this
   have hw:word (eZ s a)=true:=by
    have h1:eZ s a=c::cD s (a+1) (eB s a):=pe hc zf e3;have h2:=Cr s dN (s.length+1) a aq;unfold word;have h3:(eZ s a).all dN=true:=List.all_eq_true.2 h2;rw [h3,h1];simp [hs]
   refine ⟨⟨fun h=>?_,fun h=>⟨hw,?_⟩,fun h=>?_,?_⟩,rfl,zf,e3⟩
   ·simp only at h;split at h <;> cases h
   ·simp only at h;split at h
    ·cases h
    ·rename_i hh;simpa using hh
   ·simp only at h;split at h
    ·assumption
    ·cases h
   ·simp only;split
    ·exact .inr (.inr rfl)
    ·exact .inr (.inl rfl)
  ·rw [if_neg hs] at h0 |-
   by_cases hg:fK s a=[]
   ·rw [if_pos hg] at h0;cases h0
   ·rw [if_neg hg]
    have key:jT (fK s a)=true/\a+(fK s a).length<=s.length:=by
     unfold fK at hg |-
     have aux:∀ k,gn s a k=true->jT (cD s a (a+k))=true/\a+(cD s a (a+k)).length<=s.length:=fun k h=>by
      simp only [gn,Bool.and_eq_true,decide_eq_true_eq] at h;refine ⟨h.2,?_⟩;rw [kV h.1.1];have:=h.1.1;omega
     split
     ·exact aux 2 (by assumption)
     ·rename_i h2;rw [if_neg h2] at hg;split
      ·exact aux 1 (by assumption)
      ·rename_i h1;rw [if_neg h1] at hg;exact absurd rfl hg
    have hl:=List.length_pos_iff.2 (Pv key.1);exact ⟨⟨fun h=>by simp at h,fun h=>by simp at h,fun _=>key.1,.inr (.inr rfl)⟩,rfl,by simp only;omega,key.2⟩
theorem B6:∀ {l:ai} {n:Nat},pO l=some n->n+2<=l.length
 | [],n,h=>by cases h
 | b::l,n,h=>by
  rw [pO] at h;split at h
  ·rename_i hp;cases h
   cases l with
   | nil=>simp [List.isPrefixOf] at hp
   | cons d l=>simp
  ·cases hq:pO l with
   | none=>rw [hq] at h;cases h
   | some m=>rw [hq] at h;cases h;have:=B6 hq;simp only [length_cons];omega
theorem rp (s:ai):∀ (f a:Nat) (acc:List Tok),a<=s.length->s.length < f+a->(∀ t∈acc,Aw t)->(acc.Pairwise fun x y=>x.at_ < y.at_)->(∀ t∈acc,t.at_ < (a:Int))->acc.length<=a ->
  ∃ ts c z,mV s f a acc=some (ts,c,z)/\(∀ t∈ts,Aw t)/\(ts.Pairwise fun x y=>x.at_ < y.at_)/\ts.length<=s.length
 | 0,a,acc,h1,h2,_,_,_,_=>by omega
 | f+1,a,acc,h1,h2,h3,h4,h5,h6=>by
  rw [mV]
  cases hc:s[a]? with
  | none=>exact ⟨acc,0,0,rfl,h3,h4,by omega⟩
  | some c =>
   simp only;have ao:=(List.getElem?_eq_some_iff.1 hc).1;split
   ·exact rp s f (a+1) acc aq aq h3 h4 (fun t ht=>by have:=h5 t ht;omega) aq
   ·split
    ·rename_i hb;have nc:=jt hb;simp only [length_cons,length_nil] at nc
     cases hi:pO (s.drop (a+2)) with
     | none=>exact ⟨[],4,a,rfl,fun t h=>by simp at h,.nil,Nat.zero_le _⟩
     | some n =>
      have:=B6 hi;rw [length_drop] at this;exact rp s f (a+(n+4)) acc aq aq h3 h4 (fun t ht=>by have:=h5 t ht;omega) aq
    ·split
     ·exact ⟨[],_,a,rfl,fun t h=>by simp at h,.nil,Nat.zero_le _⟩
     ·rename_i h0;obtain ⟨k1,k2,k3,k4⟩:=Jc hc (by simpa using h0);refine rp s f _ _ k4 aq (fun t ht=>?_) ?_ (fun t ht=>?_) (by rw [length_append];simp only [length_cons,length_nil];omega)
      ·rcases List.mem_append.1 ht with h | h
       ·exact h3 t h
       ·rw [mem_singleton] at h;subst h;exact k1
      ·rw [List.pairwise_append];refine ⟨h4,List.pairwise_singleton _ _,fun x hx y hy=>?_⟩;rw [mem_singleton] at hy;subst hy;rw [k2];exact h5 x hx
      ·rcases List.mem_append.1 ht with h | h
       ·have:=h5 t h;omega
       ·rw [mem_singleton] at h;subst h;rw [k2];omega
theorem zr (s:ai):∀ (f:Nat) (n:Int) (a:Nat),a<=s.length->s.length < f+a->jX (cD s a (number s f n a).2) n=(number s f n a).1
 | 0,n,a,h1,h2=>by omega
 | f+1,n,a,h1,h2=>by
  have Fg:cD s a a=[]:=eq_nil_of_length_eq_zero (by rw [kV h1];omega);rw [number]
  cases hc:s[a]? with
  | none=>simp only;rw [Fg,jX]
  | some c =>
   simp only;have ao:=(List.getElem?_eq_some_iff.1 hc).1
   by_cases hd:dW c=true
   ·rw [if_pos hd];obtain ⟨e1,e2,e3⟩:=wy s f (if n<=2147483647 then n * 10+((c.toNat:Int) - 48) else n) (a+1) aq aq;rw [pe hc aq e3,jX];have ih:=zr s f (if n<=2147483647 then n * 10+((c.toNat:Int) - 48) else n) (a+1) aq aq
    by_cases hn:n<=2147483647
    ·rw [if_pos hn] at ih |-;rw [if_pos hn,Int.mul_comm 10 n];exact ih
    ·rw [if_neg hn] at ih |-;rw [if_neg hn];rw [<-ih]
     cases hw:cD s (a+1) (number s f n (a+1)).2 with
     | nil=>rw [jX]
     | cons d r=>rw [jX,if_neg hn]
   ·rw [if_neg hd];simp only;rw [Fg,jX]
theorem Bj (s:ai):∀ (f:Nat) (n:Int) (a:Nat),(number s f n a).2=Go.Sp.run s dW f a
 | 0,n,a=>rfl
 | f+1,n,a=>by
  rw [number,Go.Sp.run]
  cases hc:s[a]? with
  | none=>rfl
  | some c =>
   simp only;split
   ·exact Bj s f _ (a+1)
   ·rfl
theorem nN {s x:ai} {a:Nat}:bA s a x=(decide (a+x.length<=s.length)&&(cD s a (a+x.length)==x)):=rfl
theorem KK {s:ai} {a:Nat} {c:UInt8} (hc:s[a]?=some c) (hs:small c=false):fK s a=(match bI.find? (bA s a) with | some x=>x | none=>[]):=by
 have ao:=(List.getElem?_eq_some_iff.1 hc).1
 have h2:∀ x∈bI,x.length=1\/x.length=2:=by decide
 have A4:bI=bI.take 8++bI.drop 8:=(take_append_drop 8 bI).symm
 have jC:∀ x∈bI.take 8,x.length=2:=by decide
 have ff:∀ x∈bI.drop 8,x.length=1:=by decide
 have hw:∀ x∈words,∃ d r,x=d::r/\small d=true:=by
  intro x hx
  have:∀ x∈words,(match x with | d::_=>small d | []=>false)=true:=by decide
  have:=this x hx
  cases x with
  | nil=>cases this
  | cons d r=>exact ⟨d,r,rfl,this⟩
 have Pf:∀ k,1<=k->a+k<=s.length->cD s a (a+k)=c::cD s (a+1) (a+k):=fun k h1 h2=>pe hc aq h2
 have dK:∀ k,1<=k->a+k<=s.length->(jT (cD s a (a+k))=true↔cD s a (a+k)∈bI):=fun k h1 h2=>by
  unfold jT;rw [x9,contains_iff_mem,List.mem_append];refine ⟨fun h=>h.resolve_left fun hm=>?_,.inr⟩;obtain ⟨d,r,e1,e2⟩:=hw _ hm;rw [Pf k h1 h2] at e1
  cases e1;rw [hs] at e2;cases e2
 have J0:∀ k,1<=k->(gn s a k=true↔a+k<=s.length/\cD s a (a+k)∈bI):=fun k h1=>by
  unfold gn;rw [hc];simp only [hs,Bool.not_false,Bool.and_true,Bool.and_eq_true,decide_eq_true_eq];exact ⟨fun ⟨p,q⟩=>⟨p,(dK k h1 p).1 q⟩,fun ⟨p,q⟩=>⟨p,(dK k h1 p).2 q⟩⟩
 have vZ:∀ k,1<=k->k<=2->a+k<=s.length->cD s a (a+k)∈bI->(cD s a (a+k)).length=k:=fun k _ _ h _=>by rw [kV h];omega
 unfold fK
 by_cases t2:gn s a 2=true
 ·rw [if_pos t2];obtain ⟨p,q⟩:=(J0 2 av).1 t2
  have hq:cD s a (a+2)∈bI.take 8:=by
   rw [A4] at q
   rcases List.mem_append.1 q with h | h
   ·exact h
   ·have:=ff _ h;rw [kV p] at this;omega
  rw [A4,List.find?_append]
  have:(bI.take 8).find? (bA s a)=some (cD s a (a+2)):=by
   cases hf:(bI.take 8).find? (bA s a) with
   | none =>
    rw [find?_eq_none] at hf;have h1:=hf _ hq;rw [nN,kV p,show a+(a+2 - a)=a+2 by omega] at h1;simp [p] at h1
   | some x =>
    have h1:=List.find?_some hf;have h3:=jC x (List.mem_of_find?_eq_some hf);rw [nN,h3] at h1;simp only [Bool.and_eq_true,beq_iff_eq] at h1;rw [h1.2]
  rw [this];rfl
 ·rw [if_neg t2]
  have Zg:(bI.take 8).find? (bA s a)=none:=by
   rw [find?_eq_none];intro x hx hb;rw [nN,jC x hx] at hb;simp only [Bool.and_eq_true,beq_iff_eq,decide_eq_true_eq] at hb;exact t2 ((J0 2 av).2 ⟨hb.1,by rw [hb.2];exact List.mem_of_mem_take hx⟩)
  rw [A4,List.find?_append,Zg]
  by_cases t1:gn s a 1=true
  ·rw [if_pos t1];obtain ⟨p,q⟩:=(J0 1 av).1 t1
   have hq:cD s a (a+1)∈bI.drop 8:=by
    rw [A4] at q
    rcases List.mem_append.1 q with h | h
    ·have:=jC _ h;rw [kV p] at this;omega
    ·exact h
   have:(bI.drop 8).find? (bA s a)=some (cD s a (a+1)):=by
    cases hf:(bI.drop 8).find? (bA s a) with
    | none =>
     rw [find?_eq_none] at hf;have h1:=hf _ hq;rw [nN,kV p,show a+(a+1 - a)=a+1 by omega] at h1;simp [p] at h1
    | some x =>
     have h1:=List.find?_some hf;have h3:=ff x (List.mem_of_find?_eq_some hf);rw [nN,h3] at h1;simp only [Bool.and_eq_true,beq_iff_eq] at h1;rw [h1.2]
   rw [this];rfl
  ·rw [if_neg t1]
   have:(bI.drop 8).find? (bA s a)=none:=by
    rw [find?_eq_none];intro x hx hb;rw [nN,ff x hx] at hb;simp only [Bool.and_eq_true,beq_iff_eq,decide_eq_true_eq] at hb;exact t1 ((J0 1 av).2 ⟨hb.1,by rw [hb.2];exact List.mem_of_mem_drop hx⟩)
   rw [this];rfl
theorem To {s:ai} {a a':Nat} {c:UInt8} {t:Tok} (hc:s[a]?=some c) (h:iK s a c=(t,a')) (hk:t.kind=1\/t.kind=2\/t.kind=3) (hn:t.n<=2147483647):kq s a c=(t,a',0):=by
 have ao:=(List.getElem?_eq_some_iff.1 hc).1;unfold iK at h;unfold kq
 by_cases hd:dW c=true
 ·rw [if_pos hd] at h |-;cases h;have e1:jM s a=(number s (s.length+1) 0 a).2:=(Bj s _ 0 a).symm;rw [e1,zr s _ 0 a aq aq,if_neg (by simpa using hn)]
 ·rw [if_neg hd] at h |-
  by_cases hs:small c=true
  ·rw [if_pos hs] at h |-;cases h
   have Fq:∃ r,eZ s a=c::r\/eZ s a=[]:=by
    cases hw:eZ s a with
    | nil=>exact ⟨[],.inr rfl⟩
    | cons d r =>
     obtain ⟨e1,e2,e3⟩:=py s dN (s.length+1) a aq aq
     have tV:dN c=true:=by simp [dN,hs]
     have zf:a < eB s a:=by
      rcases Nat.lt_or_ge a (eB s a) with h | h
      ·exact h
      ·have he:Go.Sp.run s dN (s.length+1) a=a:=by unfold eB at h;omega
       have:=e1 c (by rw [he];exact hc);rw [tV] at this;cases this
     have h1:eZ s a=c::cD s (a+1) (eB s a):=pe hc zf e3;rw [hw] at h1;cases h1;exact ⟨_,.inl rfl⟩
   have dK:jT (eZ s a)=words.contains (eZ s a):=by
    unfold jT;rw [x9]
    have A2:∀ x∈bI,(match x with | d::_=>small d | []=>true)=false:=by decide
    obtain ⟨r,h1⟩:=Fq
    have:bI.contains (eZ s a)=false:=by
     cases gT:bI.contains (eZ s a) with
     | false=>rfl
     | true =>
      have:=A2 _ (List.contains_iff_mem.1 gT)
      rcases h1 with h1 | h1 <;> rw [h1] at this <;> simp only at this
      ·rw [hs] at this;cases this
      ·cases this
    rw [Bool.eq_iff_iff,contains_iff_mem,List.mem_append,<-contains_iff_mem (as:=bI),this];simp
   rw [dK]
  ·rw [if_neg hs] at h |-;rw [KK hc (by simpa using hs)]
   cases hf:bI.find? (bA s a) with
   | none=>rw [hf] at h;cases h;simp at hk
   | some x =>
    rw [hf] at h;cases h;simp only;have hx:=List.mem_of_find?_eq_some hf
    have bJ:x≠[]:=by
     intro h0;subst h0;revert hx;decide
    rw [if_neg bJ]
theorem SK {s:ai} {a b:Nat} {ts:List Tok} (h:Tz s a ts b):b=s.length->∀ (f:Nat) (acc:List Tok),s.length < f+a->mV s f a acc=some (acc++ts,0,0):=by
 induction h with
 | nil a =>
  intro hb f acc hf
  cases f with
  | zero=>omega
  | succ f =>
   rw [mV];have:s[a]?=none:=List.getElem?_eq_none_iff.2 aq;rw [this];simp
 | blank hc nc h ih =>
  intro hb f acc hf
  cases f with
  | zero=>have:=(List.getElem?_eq_some_iff.1 hc).1;omega
  | succ f =>
   rw [mV,hc];simp only;rw [if_pos nc];exact ih hb f acc aq
 | tok hc nc hr ht hk hn ha h ih =>
  intro hb f acc hf
  cases f with
  | zero=>have:=(List.getElem?_eq_some_iff.1 hc).1;omega
  | succ f =>
   rw [mV,hc];simp only;rw [if_neg (by rw [nc];decide),if_neg (by rw [hr];decide),To hc ht hk hn];simp only [ne_eq,not_true_eq_false,if_false];rw [ih hb f _ aq];simp
abbrev qZ (ts:List Tok):Prop:=∀ t∈ts,Aw t
def EF (t:T):Prop:=∃ a:E,a.ok=true/\er t=a.tree
def Lf (l:List T):Prop:=∃ es:List E,E.cM es=true/\aP l=E.trees es
def Sf (ts r:List Tok) (n:Nat):Prop:=∃ pre,ts=pre++r/\n<=pre.length
theorem Sf.nil (ts:List Tok):Sf ts ts 0:=⟨[],rfl,Nat.zero_le _⟩
theorem Sf.one (t:Tok) (ts:List Tok):Sf (t::ts) ts 1:=⟨[t],rfl,Nat.le_refl _⟩
theorem Sf.trans {a b c:List Tok} {n m:Nat} (h:Sf a b n) (k:Sf b c m):Sf a c (n+m):=by
 obtain ⟨p,rfl,h⟩:=h;obtain ⟨q,rfl,k⟩:=k;exact ⟨p++q,by simp,by rw [length_append];omega⟩
theorem Sf.le {a b:List Tok} {n m:Nat} (h:Sf a b n) (k:m<=n):Sf a b m:=by
 obtain ⟨p,rfl,h⟩:=h;exact ⟨p,rfl,by omega⟩
theorem Sf.ok {a b:List Tok} {n:Nat} (h:Sf a b n) (k:qZ a):qZ b:=by
 obtain ⟨p,rfl,h⟩:=h
 exact fun t ht=>k t (List.mem_append_right _ ht)
theorem Sf.aO {e:Int} {s:ai} {ts r:List Tok} (hs:s≠[]) (h:aO e s ts=.ok r):Sf ts r 1:=by
 obtain ⟨u,rfl,_⟩:=wq hs h;exact .one u r
theorem Sf.sign {s:ai} {ts:List Tok} (hs:s≠[]) (h:sign ts 0=s):Sf ts ts.tail 1:=by
 obtain ⟨u,h1,_⟩:=tz hs h;rw [h1];exact .one u _
theorem Qa {s:ai} (h:jT s=false):words.contains s=false:=by
 unfold jT at h;rw [x9] at h
 cases hc:words.contains s with
 | false=>rfl
 | true =>
  rw [contains_iff_mem] at hc
  have:(words++bI).contains s=true:=by rw [contains_iff_mem];exact List.mem_append_left _ hc
  rw [h] at this;cases this
theorem WX {t:Tok} (h:Aw t) (hk:t.kind=2) (hl:t.s.length<=12):bs t.s=true:=by
 obtain ⟨h1,h2⟩:=h.name hk;unfold bs;rw [h1,Qa h2];simpa using hl
theorem Sf.name {e:Int} {s:ai} {ts r:List Tok} (h:name e ts=.ok (s,r)) (ho:qZ ts):Sf ts r 1/\bs s=true:=by
 obtain ⟨u,rfl,h1,rfl,h3⟩:=FL h;exact ⟨.one u r,WX (ho u mem_cons_self) h1 h3⟩
theorem RX {s:ai} {k:Nat} (h:s∈levels.getD k []):eA s=true:=by
 unfold eA;rw [any_eq_true];rw [List.getD_eq_getElem?_getD] at h
 cases hk:levels[k]? with
 | none=>rw [hk] at h;simp at h
 | some l =>
  rw [hk] at h;exact ⟨l,mem_of_getElem? hk,by rw [contains_iff_mem];exact h⟩
theorem ja (k a:Int) (s:ai) (l:List T):aR (one k a s l)=aB l+1:=by unfold one;rw [aR]
theorem Lf.snoc {l:List T} {t:T} (h:Lf l) (k:EF t):Lf (l++[t]):=by
 obtain ⟨es,h1,h2⟩:=h;obtain ⟨a,h3,h4⟩:=k
 have key:∀ es:List E,E.cM es=true->E.cM (es++[a])=true/\E.trees (es++[a])=E.trees es++[a.tree]:=by
  intro es
  induction es with
  | nil=>intro _;simp [E.cM,E.trees,h3]
  | cons b es ih =>
   intro h;simp only [E.cM,Bool.and_eq_true] at h;obtain ⟨k1,k2⟩:=ih h.2;simp only [cons_append,E.cM,E.trees,k1,k2,h.1];simp
 obtain ⟨k1,k2⟩:=key es h1;exact ⟨es++[a],k1,by rw [HR,h2,k2,aP,aP,h4]⟩
def ve:ow->Nat
 | .loop _ _ out=>aR out
 | _=>0
def jok:ow->Prop
 | .loop _ _ out=>EF out
 | _=>True
theorem SZ (e:Int):∀ f,(∀ j ts t r,qZ ts->jok j->rd e f j ts=.ok (t,r)->EF t/\∃ n,Sf ts r n/\aR t<=n+ve j) /\
  (∀ d acc ts l r,qZ ts->Lf acc->rd.args e f d acc ts=.ok (l,r)->Lf l/\∃ n,Sf ts r n/\aB l+1<=n+aB acc):=by
 intro f
 induction f with
 | zero=>exact ⟨fun j ts t r _ _ h=>by simp [rd] at h,fun d acc ts l r _ _ h=>by simp [rd.args] at h⟩
 | succ f ih =>
  obtain ⟨ih,xP⟩:=ih;refine ⟨fun j ts t r ho hj h=>?_,fun d acc ts l r ho hj h=>?_⟩
  ·cases j with
   | expr d =>
    rw [rd] at h;split at h
    ·cases h
    ·exact ih (.level 0 (d+1)) ts t r ho trivial h
   | level k d =>
    rw [rd] at h;split at h
    ·exact ih (.operand d) ts t r ho trivial h
    ·split at h
     ·cases h
     ·rename_i out iI hx;obtain ⟨h1,n,h2,h3⟩:=ih (.level (k+1) d) ts out iI ho trivial hx;obtain ⟨k1,m,k2,k3⟩:=ih (.loop k d out) iI t r (h2.ok ho) h1 h;exact ⟨k1,n+m,h2.trans k2,by simp only [ve] at *;omega⟩
   | loop k d out =>
    cases ts with
    | nil=>rw [rd] at h;cases h;exact ⟨hj,0,.nil _,by simp only [ve];omega⟩
    | cons t0 r0 =>
     rw [rd] at h;split at h
     ·rename_i hc;split at h
      ·cases h
      ·rename_i b r1 hx;obtain ⟨⟨b',h0,h1⟩,n,h2,h3⟩:=ih (.level (k+1) d) r0 b r1 (fun t ht=>ho t (mem_cons_of_mem _ ht)) trivial hx;obtain ⟨o',h4,h5⟩:=hj;have h6:=(Sf.one t0 r0).trans h2;obtain ⟨k1,m,k2,k3⟩:=ih (.loop k d (one 6 t0.at_ t0.s [out,b])) r1 t r (h6.ok ho) ⟨.bin t0.s o' b',by simp only [E.ok,RX hc.2,h4,h0];rfl,by rw [dF,aP,aP,aP,h5,h1,E.tree]⟩ h;refine ⟨k1,_,h6.trans k2,?_⟩;simp only [ve,ja,aB] at *;omega
     ·cases h;exact ⟨hj,0,.nil _,by simp only [ve];omega⟩
   | operand d =>
    cases ts with
    | nil =>
     rw [rd] at h;split at h <;> cases h
    | cons t0 r0 =>
     rw [rd] at h;split at h
     ·cases h
     ·have XM:qZ r0:=fun t ht=>ho t (mem_cons_of_mem _ ht)
      have sV:=Sf.one t0 r0;split at h
      ·split at h
       ·rename_i hu;split at h
        ·cases h
        ·rename_i a r1 hx;cases h;obtain ⟨⟨a',h0,h1⟩,n,h2,h3⟩:=ih (.operand (d+1)) r0 a r XM trivial hx;refine ⟨⟨.un t0.s a',?_,by rw [dF,aP,aP,h1,E.tree]⟩,_,sV.trans h2,?_⟩
         ·simp only [E.ok,h0]
          rcases hu with hu | hu | hu <;> simp [hu]
         ·simp only [ve,ja,aB] at *;omega
       ·split at h
        ·split at h
         ·cases h
         ·rename_i a r1 hx;split at h
          ·cases h
          ·rename_i r2 hm;cases h;obtain ⟨h1,n,h2,h3⟩:=ih (.expr (d+1)) r0 t r1 XM trivial hx;exact ⟨h1,_,(sV.trans h2).trans (Sf.aO av hm),by simp only [ve] at *;omega⟩
        ·cases h
      ·split at h
       ·rename_i hk;cases h;obtain ⟨k1,k2,k3⟩:=(ho t0 mem_cons_self).num hk;exact ⟨⟨.num t0.n,by simp only [E.ok];simp [k1,k2],by rw [er,aP,E.tree]⟩,1,sV,by simp only [ve,aR,aB];omega⟩
       ·split at h
        ·cases h
        ·rename_i s r1 eN;obtain ⟨k1,k2⟩:=Sf.name eN ho;split at h
         ·rename_i hb;have k3:=k1.trans (Sf.sign av hb);split at h
          ·cases h
          ·rename_i a r2 hx;split at h
           ·cases h
           ·rename_i r3 hm;cases h;obtain ⟨⟨a',h0,h1⟩,n,h2,h3⟩:=ih (.expr (d+1)) _ a r2 (k3.ok ho) trivial hx;refine ⟨⟨.at_ s a',by simp only [E.ok,k2,h0];rfl,by rw [dF,aP,aP,h1,E.tree]⟩,_,(k3.trans h2).trans (Sf.aO av hm),?_⟩;simp only [ve,ja,aB] at *;omega
         ·split at h
          ·rename_i hb;have k3:=k1.trans (Sf.sign av hb);split at h
           ·cases h
           ·rename_i l r2 hx;cases h;obtain ⟨⟨es,h0,h1⟩,n,h2,h3⟩:=xP _ _ _ l r (k3.ok ho) ⟨[],rfl,rfl⟩ hx;refine ⟨⟨.call s es,by simp only [E.ok,k2,h0];rfl,by rw [dF,h1,E.tree]⟩,_,k3.trans h2,?_⟩;simp only [ve,ja,aB] at *;omega
          ·cases h;exact ⟨⟨.name s,by simp only [E.ok,k2],by rw [dF,aP,E.tree]⟩,1,k1,by simp only [ve,ja,aB];omega⟩
  ·rw [rd.args] at h;split at h
   ·rename_i hc;cases h;exact ⟨hj,1,Sf.sign av hc,by omega⟩
   ·split at h
    ·cases h
    ·rename_i yc hx
     have h0:Sf ts yc 0:=by
      split at hx
      ·cases hx;exact .nil _
      ·exact (Sf.aO av hx).le (Nat.zero_le _)
     split at h
     ·cases h
     ·rename_i a vE hy;obtain ⟨h1,n,h2,h3⟩:=ih (.expr d) yc a vE (h0.ok ho) trivial hy;have h4:=h0.trans h2;obtain ⟨k1,m,k2,k3⟩:=xP _ (acc++[a]) vE l r (h4.ok ho) (hj.snoc h1) h;refine ⟨k1,_,h4.trans k2,?_⟩;simp only [ve,mO,aB] at *;omega
theorem xo {e:Int} {d:Nat} {ts r:List Tok} {t:T} (ho:qZ ts) (h:expr e d ts=.ok (t,r)):EF t/\Sf ts r (aR t):=by
 obtain ⟨h1,n,h2,h3⟩:=(SZ e _).1 (.expr d) ts t r ho trivial h;exact ⟨h1,h2.le (by simpa [ve] using h3)⟩
theorem v8 {e:Int} {d:Nat} {a b:ai} {ts r:List Tok} {t:T} (ha:a≠[]) (hb:b≠[]) (ho:qZ ts) (h:inner e d a b ts=.ok (t,r)):EF t/\Sf ts r (aR t+2):=by
 unfold inner at h;split at h
 ·cases h
 ·rename_i yc h1;have k1:=Sf.aO ha h1;split at h
  ·cases h
  ·rename_i t' vE h2;obtain ⟨k2,k3⟩:=xo (k1.ok ho) h2;split at h
   ·cases h
   ·rename_i ts3 h3;cases h;exact ⟨k2,((k1.trans k3).trans (Sf.aO hb h3)).le aq⟩
theorem Bv {e:Int} {d:Nat} {ts r:List Tok} {s:ai} {t:T} (ho:qZ ts) (h:kP e d ts=.ok ((s,t),r)):bs s=true/\EF t/\Sf ts r (aR t+3):=by
 unfold kP at h;split at h
 ·cases h
 ·rename_i s' yc h1;obtain ⟨k1,k2⟩:=Sf.name h1 ho;split at h
  ·cases h
  ·rename_i t' vE h2;cases h;obtain ⟨k3,k4⟩:=v8 av av (k1.ok ho) h2;exact ⟨k2,k3,(k1.trans k4).le aq⟩
def SF (t:T):Prop:=∃ a:S,a.ok=true/\er t=a.tree
def Lq (l:List T):Prop:=∃ es:List S,S.cM es=true/\aP l=S.trees es
def BF (t:T):Prop:=∃ l:List S,S.cM l=true/\er t=bG l
theorem Lq.snoc {l:List T} {t:T} (h:Lq l) (k:SF t):Lq (l++[t]):=by
 obtain ⟨es,h1,h2⟩:=h;obtain ⟨a,h3,h4⟩:=k
 have key:∀ es:List S,S.cM es=true->S.cM (es++[a])=true/\S.trees (es++[a])=S.trees es++[a.tree]:=by
  intro es
  induction es with
  | nil=>intro _;simp [S.cM,S.trees,h3]
  | cons b es ih =>
   intro h;simp only [S.cM,Bool.and_eq_true] at h;obtain ⟨k1,k2⟩:=ih h.2;simp only [cons_append,S.cM,S.trees,k1,k2,h.1];simp
 obtain ⟨k1,k2⟩:=key es h1;exact ⟨es++[a],k1,by rw [HR,h2,k2,aP,aP,h4]⟩
theorem P3 {t:T} (h:EF t) (hk:t.n.kind=3):∃ (s:ai) (a:T),t.kids=[a]/\t.n.s=s/\bs s=true/\EF a:=by
 obtain ⟨a,h1,h2⟩:=h;have h3:=congrArg (fun x=>x.n.kind) h2;simp only [xm,hk] at h3
 cases a with
 | at_ s b =>
  simp only [E.ok,Bool.and_eq_true] at h1
  have h4:t.n.s=s:=by have:=congrArg (fun x=>x.n.s) h2;simp only [xm] at this;exact this
  have h5:aP t.kids=[b.tree]:=by rw [<-Si,h2];rfl
  match hl:t.kids,h5 with
  | [x],h5 =>
   rw [aP,aP] at h5
   injection h5 with h6
   exact ⟨s,x,rfl,h4,h1.1,b,h1.2,h6⟩
  | [],h5=>rw [aP] at h5;cases h5
  | x::y::r,h5=>rw [aP,aP] at h5;injection h5 with h6 h7;cases h7
 | num n=>simp [E.tree,T.n] at h3
 | name n=>simp [E.tree,T.n] at h3
 | call s l=>simp [E.tree,T.n] at h3
 | un s a=>simp [E.tree,T.n] at h3
 | bin s a b=>simp [E.tree,T.n] at h3
theorem Hr {e:Int} {d:Nat} {ts r:List Tok} {t:T} (ho:qZ ts) (h:simple e d ts=.ok (t,r)):SF t/\Sf ts r (aR t):=by
 unfold simple at h;split at h
 ·split at h <;> cases h
 ·rename_i t0 r0;split at h
  ·split at h
   ·cases h
   ·rename_i s a yc h1;cases h;obtain ⟨k1,⟨a',k2,k3⟩,k4⟩:=Bv ho h1;exact ⟨⟨.set s a',by simp only [S.ok,k1,k2];rfl,by rw [dF,aP,aP,k3,S.tree]⟩,k4.le (by simp only [ja,aB];omega)⟩
  ·split at h
   ·cases h
   ·rename_i a yc h1;obtain ⟨k1,k2⟩:=xo ho h1;split at h
    ·rename_i hc;split at h
     ·cases h
     ·rename_i v vE h2;cases h;obtain ⟨⟨v',k3,k4⟩,k5⟩:=v8 av av (k2.ok ho) h2;obtain ⟨s,x,k6,k7,k8,x',k9,k10⟩:=P3 k1 hc.1;have hz:=ej a;rw [k6] at hz;simp only [aB] at hz;rw [k6];refine ⟨⟨.put s x' v',by simp only [S.ok,k8,k9,k3];rfl,?_⟩,(k2.trans k5).le ?_⟩
      ·rw [dF,k7];simp only [take_succ_cons,take_zero,cons_append,nil_append,aP,k10,k4,S.tree]
      ·simp only [take_succ_cons,take_zero,cons_append,nil_append,ja,aB];omega
    ·split at h
     ·cases h
     ·rename_i vE h2;cases h;obtain ⟨a',k3,k4⟩:=k1;exact ⟨⟨.do_ a',by simp only [S.ok,k3],by rw [dF,aP,aP,k4,S.tree]⟩,(k2.trans (Sf.aO av h2)).le (by simp only [ja,aB];omega)⟩
theorem S3 (e:Int):∀ f,(∀ d ts t r,qZ ts->rs e f (.block d) ts=.ok (t,r)->BF t/\Sf ts r (aR t))/\(∀ d ts t r,qZ ts->rs e f (.stmt d) ts=.ok (t,r)->SF t/\Sf ts r (aR t)) /\
  (∀ d acc ts l r,qZ ts->Lq acc->rs.body e f d acc ts=.ok (l,r)->Lq l/\∃ n,Sf ts r n/\aB l+1<=n+aB acc):=by
 intro f
 induction f with
 | zero=>exact ⟨fun d ts t r _ h=>by simp [rs] at h,fun d ts t r _ h=>by simp [rs] at h,fun d acc ts l r _ _ h=>by simp [rs.body] at h⟩
 | succ f ih =>
  obtain ⟨X1,ihs,X2⟩:=ih;refine ⟨fun d ts t r ho h=>?_,fun d ts t r ho h=>?_,fun d acc ts l r ho hj h=>?_⟩
  ·rw [rs] at h;split at h
   ·cases h
   ·split at h
    ·cases h
    ·rename_i r1 h1;have k1:=Sf.aO av h1;split at h
     ·cases h
     ·rename_i l r2 h2;cases h;obtain ⟨⟨es,k2,k3⟩,n,k4,k5⟩:=X2 _ [] r1 l r (k1.ok ho) ⟨[],rfl,rfl⟩ h2;exact ⟨⟨es,k2,by rw [dF,k3,bG]⟩,(k1.trans k4).le (by simp only [ja,aB] at *;omega)⟩
  ·rw [rs] at h;split at h
   ·cases h
   ·simp only at h;split at h
    ·rename_i hs;have k0:=Sf.sign av hs;split at h
     ·cases h
     ·rename_i s a yc h1;cases h;obtain ⟨k1,⟨a',k2,k3⟩,k4⟩:=Bv (k0.ok ho) h1;exact ⟨⟨.var s a',by simp only [S.ok,k1,k2];rfl,by rw [dF,aP,aP,k3,S.tree]⟩,(k0.trans k4).le (by simp only [ja,aB];omega)⟩
    ·split at h
     ·rename_i hs
      have k0:Sf ts ts.tail 1:=by
       rcases hs with hs | hs
       ·exact Sf.sign av hs
       ·exact Sf.sign av hs
      split at h
      ·cases h
      ·rename_i c r1 h1;obtain ⟨⟨c',k1,k2⟩,k3⟩:=v8 av av (k0.ok ho) h1;have k4:=k0.trans k3;split at h
       ·cases h
       ·rename_i b r2 h2;obtain ⟨⟨lb,k5,k6⟩,k7⟩:=X1 _ _ b r2 (k4.ok ho) h2;have k8:=k4.trans k7;split at h
        ·split at h
         ·rename_i eW;have k9:=k8.trans (Sf.sign av eW);split at h
          ·cases h
          ·rename_i b2 r3 h3;cases h;obtain ⟨⟨lb2,j5,j6⟩,j7⟩:=X1 _ _ b2 r (k9.ok ho) h3;refine ⟨⟨.if2 c' lb lb2,by simp only [S.ok,k1,k5,j5];rfl,?_⟩,(k9.trans j7).le (by simp only [ja,aB];omega)⟩;rw [dF,aP,aP,aP,aP,k2,k6,j6,S.tree,bG,bG]
         ·cases h;refine ⟨⟨.if1 c' lb,by simp only [S.ok,k1,k5];rfl,?_⟩,k8.le (by simp only [ja,aB];omega)⟩;rw [dF,aP,aP,aP,k2,k6,S.tree,bG]
        ·cases h;refine ⟨⟨.while_ c' lb,by simp only [S.ok,k1,k5];rfl,?_⟩,k8.le (by simp only [ja,aB];omega)⟩;rw [dF,aP,aP,aP,k2,k6,S.tree,bG]
     ·split at h
      ·rename_i hs;have k0:=Sf.sign av hs;split at h
       ·cases h
       ·rename_i a yc h1;obtain ⟨⟨a',k1,k2⟩,k3⟩:=xo (k0.ok ho) h1;split at h
        ·cases h
        ·rename_i vE h2;cases h;exact ⟨⟨.ret a',by simp only [S.ok,k1],by rw [dF,aP,aP,k2,S.tree]⟩,((k0.trans k3).trans (Sf.aO av h2)).le (by simp only [ja,aB];omega)⟩
      ·exact Hr ho h
  ·rw [rs.body] at h;split at h
   ·rename_i hc;cases h;exact ⟨hj,1,Sf.sign av hc,by omega⟩
   ·split at h
    ·cases h
    ·rename_i a yc h1;obtain ⟨k1,k2⟩:=ihs _ ts a yc ho h1;obtain ⟨k3,m,k4,k5⟩:=X2 _ (acc++[a]) yc l r (k2.ok ho) (hj.snoc k1) h;refine ⟨k3,_,k2.trans k4,?_⟩;simp only [mO,aB] at *;omega
theorem Jv {e:Int} {d:Nat} {ts r:List Tok} {t:T} (ho:qZ ts) (h:block e d ts=.ok (t,r)):BF t/\Sf ts r (aR t):=(S3 e _).1 _ ts t r ho h
end Go.Im
namespace Go.Sp
open Go.Xp
def dZ (x:ai) (l:List K):Prop:=∀ pre post:ai,∃ ts,ts.map kf=l/\Tz (pre++(x++post)) pre.length ts (pre.length+x.length)
def gx (x:ai) (l:List K):Prop:=∀ pre post:ai,Sep post->∃ ts,ts.map kf=l/\Tz (pre++(x++post)) pre.length ts (pre.length+x.length)
theorem dZ.s {x:ai} {l:List K} (h:dZ x l):gx x l:=fun pre post _=>h pre post
theorem dZ.app {x y:ai} {l m:List K} (h:dZ x l) (k:dZ y m):dZ (x++y) (l++m):=by
 intro pre post;obtain ⟨ts,h1,h2⟩:=h pre (y++post);obtain ⟨us,h3,h4⟩:=k (pre++x) post;refine ⟨ts++us,by simp [h1,h3],?_⟩;rw [append_assoc] at h4 |-;rw [length_append] at h4 |-;rw [<-Nat.add_assoc];exact h2.app h4
theorem dZ.apps {x y:ai} {l m:List K} (h:dZ x l) (k:gx y m):gx (x++y) (l++m):=by
 intro pre post hp;obtain ⟨ts,h1,h2⟩:=h pre (y++post);obtain ⟨us,h3,h4⟩:=k (pre++x) post hp;refine ⟨ts++us,by simp [h1,h3],?_⟩;rw [append_assoc] at h4 |-;rw [length_append] at h4 |-;rw [<-Nat.add_assoc];exact h2.app h4
theorem gx.Ek {x y:ai} {l m:List K} (h:gx x l) (k:dZ y m) (hs:∀ post,Sep (y++post)):dZ (x++y) (l++m):=by
 intro pre post;obtain ⟨ts,h1,h2⟩:=h pre (y++post) (hs post);obtain ⟨us,h3,h4⟩:=k (pre++x) post;refine ⟨ts++us,by simp [h1,h3],?_⟩;rw [append_assoc] at h4 |-;rw [length_append] at h4 |-;rw [<-Nat.add_assoc];exact h2.app h4
theorem dZ.nil:dZ [] []:=fun pre post=>⟨[],rfl,.nil _⟩
theorem x7 {c:UInt8} {x:ai} (h:c∈Cu):∀ post,Sep (c::x++post):=fun post d hd=>by cases hd;exact h
theorem sH {pre x:ai}:(pre++x).drop pre.length=x:=drop_left
theorem Tz.one {s:ai} {a a':Nat} {c:UInt8} {t:Tok} (hc:s[a]?=some c) (hb:dD c=false) (hr:bA s a [47,42]=false) (ht:iK s a c=(t,a')) (hk:t.kind=1\/t.kind=2\/t.kind=3) (hn:t.n<=2147483647) (ha:a < a'):Tz s a [t] a' :=
 .tok hc hb hr ht hk hn ha (.nil _)
theorem xW {c:UInt8} (h:dD c=true):dZ [c] []:=by
 intro pre post;have hd:(pre++([c]++post)).drop pre.length=c::post:=sH;obtain ⟨h1,_,_⟩:=mJ hd;exact ⟨[],rfl,.blank h1 h (.nil _)⟩
theorem l6 {c:UInt8} (hm:c∈[40,41,91,93,44,59,123,125]):dZ [c] [kS [c]]:=by
 intro pre post;have hd:(pre++([c]++post)).drop pre.length=c::post:=sH;obtain ⟨h1,_,h4⟩:=mJ hd;obtain ⟨h2,h3,h5⟩:=O6 (Nat.le_of_lt h4) hd hm;exact ⟨[_],rfl,Tz.one h1 h3 h5 h2 (by simp) (by simp) (by simp)⟩
theorem Ab {w:ai} (hm:w∈bI):gx w [kS w]:=by
 intro pre post hp;have hd:(pre++(w++post)).drop pre.length=w++post:=sH
 have bJ:w≠[]:=by rintro rfl;revert hm;decide
 obtain ⟨c,r,hw⟩:=List.exists_cons_of_ne_nil bJ;have dr:=hd;rw [hw,cons_append] at dr;obtain ⟨h1,_,h4⟩:=mJ dr;rw [<-cons_append,<-hw] at h1 h4;obtain ⟨h2,h3,h5⟩:=Qc (Nat.le_of_lt h4) hd hw hm hp
 have:0 < w.length:=by rw [hw];simp
 exact ⟨[_],rfl,Tz.one h1 h3 h5 h2 (by simp) (by simp) aq⟩
theorem Hs {c:UInt8} (h:small c=true):dD c=false/\c≠47:=by
 simp only [small,Bool.and_eq_true] at h;have h1:=of_decide_eq_true h.1;refine ⟨?_,fun h0=>?_⟩
 ·simp only [dD,Bool.or_eq_false_iff,beq_eq_false_iff_ne];omega
 ·subst h0;revert h1;decide
theorem Dt {s r:ai} {a:Nat} {c:UInt8} (h:s.drop a=c::r) (hc:c≠47):bA s a [47,42]=false:=by
 obtain ⟨_,_,h4⟩:=mJ h;rw [uu h (Nat.le_of_lt h4)];simp only [List.isPrefixOf]
 have:((47:UInt8)==c)=false:=by rw [beq_eq_false_iff_ne];exact fun h=>hc h.symm
 rw [this,Bool.false_and]
theorem FE {w:ai} (hw:word w=true):gx w [if words.contains w then kS w else kN w]:=by
 intro pre post hp;have hd:(pre++(w++post)).drop pre.length=w++post:=sH;simp only [word,Bool.and_eq_true,all_eq_true] at hw
 match w,hw,hd with
 | [],hw,_=>simp at hw
 | c::r,hw,hd =>
  obtain ⟨aM,hs⟩:=hw;have dr:=hd;rw [cons_append] at dr;obtain ⟨h1,_,h4⟩:=mJ dr;obtain ⟨h3,h5⟩:=Hs hs;have ht:=QA (Nat.le_of_lt h4) hd rfl hs aM hp.dN;refine ⟨[_],?_,Tz.one h1 h3 (Dt dr h5) ht ?_ (by simp) (by simp)⟩
  ·simp only [List.map_cons,List.map_nil,kf,kS,kN];split <;> rfl
  ·simp only;split <;> simp
theorem jV {w:ai} (hw:bs w=true):gx w [kN w]:=by
 simp only [bs,Bool.and_eq_true,Bool.not_eq_true'] at hw;have:=FE hw.1.1;rw [if_neg (by rw [hw.2];decide)] at this;exact this
theorem Nr {w:ai} (hw:w∈words):gx w [kS w]:=by
 have h1:∀ w∈words,word w=true:=by decide
 have:=FE (h1 w hw);rw [if_pos (by simpa using hw)] at this;exact this
theorem IG {n:Nat} (hn:n<=2147483647):gx (cE n) [kI n]:=by
 intro pre post hp;have hd:(pre++(cE n++post)).drop pre.length=cE n++post:=sH;obtain ⟨h1,h2,h3⟩:=HK n;obtain ⟨c,r,hw⟩:=List.exists_cons_of_ne_nil h3;have dr:=hd;rw [hw,cons_append] at dr;obtain ⟨h4,_,h5⟩:=mJ dr;rw [<-cons_append,<-hw] at h4 h5;have hc:dW c=true:=h1 c (by rw [hw];exact mem_cons_self)
 have C5:dD c=false/\c≠47:=by
  simp only [dW,Bool.and_eq_true] at hc;have h1:=of_decide_eq_true hc.1;refine ⟨?_,fun h0=>?_⟩
  ·simp only [dD,Bool.or_eq_false_iff,beq_eq_false_iff_ne];omega
  ·subst h0;revert h1;decide
 have ht:=SQ (Nat.le_of_lt h5) hd hw hn hp.dW
 have:0 < (cE n).length:=by rw [hw];simp
 refine ⟨[_],rfl,Tz.one h4 C5.1 ?_ ht (by simp) (by simpa using by omega) aq⟩;have AV:=dr;rw [<-cons_append,<-hw] at AV;rw [hw] at AV |-;exact Dt AV C5.2
theorem Vh {s:ai} (h:eA s=true):s∈bI:=by
 have hm:s∈levels.flatten:=by
  unfold eA at h;rw [any_eq_true] at h;obtain ⟨l,hl,hc⟩:=h;exact List.mem_flatten.2 ⟨l,hl,by simpa using hc⟩
 have key:∀ s∈levels.flatten,s∈bI:=by decide
 exact key s hm
theorem KM:dZ [32] []:=xW av
theorem gx.then {x:ai} {l:List K} (h:gx x l) {c:UInt8} (hm:c∈[40,41,91,93,44,59,123,125]):dZ (x++[c]) (l++[kS [c]]) :=
 h.Ek (l6 hm) (x7 (by revert hm;unfold Cu;simp only [List.mem_cons,List.not_mem_nil,or_false];rintro (h | h | h | h | h | h | h | h) <;> simp [h]))
theorem gx.sp {x:ai} {l:List K} (h:gx x l):dZ (x++[32]) l:=by
 have:=h.Ek KM (x7 av);rw [append_nil] at this;exact this
theorem gx.eq {x:ai} {l l':List K} (h:gx x l) (e:l=l'):gx x l':=e ▸ h
theorem dZ.eq {x:ai} {l l':List K} (h:dZ x l) (e:l=l'):dZ x l':=e ▸ h
theorem Cc {lv k:Nat} {x:ai} {l:List K} (h:gx x l):gx (qf lv k x) (brk lv k l):=by
 unfold qf brk;split
 ·have:=((l6 (c:=40) av).apps h).then (c:=41) av;exact this.s.eq (by simp)
 ·exact h
mutual
theorem oW:∀ a:E,a.ok=true->gx a.txt a.tk
 | .num n,h=>by
  simp only [E.ok,Bool.and_eq_true] at h;have h1:=of_decide_eq_true h.1;have h2:=of_decide_eq_true h.2;have:=IG (n:=n.toNat) aq;rw [E.txt,E.tk];rw [Int.toNat_of_nonneg h1] at this;exact this
 | .name s,h=>by rw [E.txt,E.tk];exact jV h
 | .at_ s a,h=>by
  simp only [E.ok,Bool.and_eq_true] at h;rw [E.txt,E.tk];exact ((((jV h.1).then (c:=91) av).apps (oW a h.2)).then (c:=93) av).s.eq (by simp)
 | .call s l,h=>by
  simp only [E.ok,Bool.and_eq_true] at h;rw [E.txt,E.tk];exact ((((jV h.1).then (c:=40) av).apps (WM l h.2)).then (c:=41) av).s.eq (by simp)
 | .un s a,h=>by
  simp only [E.ok,Bool.and_eq_true,Bool.or_eq_true,beq_iff_eq] at h;rw [E.txt,E.tk]
  have hs:s∈bI:=by rcases h.1 with (h | h) | h <;> (rw [h];decide)
  exact ((Ab hs).sp.apps (Cc (oW a h.2))).eq (by simp)
 | .bin s a b,h=>by
  simp only [E.ok,Bool.and_eq_true] at h;rw [E.txt,E.tk];exact ((((Cc (oW a h.1.2)).sp.apps (Ab (Vh h.1.1))).sp).apps (Cc (oW b h.2))).eq (by simp)
theorem WM:∀ l:List E,E.cM l=true->gx (bD (E.cL l)) (E.mF l)
 | [],_=>dZ.nil.s
 | a::l,h=>by
  simp only [E.cM,Bool.and_eq_true] at h;rw [E.cL,E.mF,bD];exact Rq l h.2 _ _ (oW a h.1)
theorem Rq:∀ l:List E,E.cM l=true->∀ x m,gx x m->gx (x++(E.cL l).flatMap fun y=>44::32::y) (m++E.p7 l)
 | [],_,x,m,hx=>by rw [E.cL,E.p7];simpa using hx
 | a::l,h,x,m,hx=>by
  simp only [E.cM,Bool.and_eq_true] at h;have h1:=((hx.then (c:=44) av).app KM).apps (oW a h.1);have h2:=Rq l h.2 _ _ h1;rw [E.cL,E.p7,flatMap_cons]
  have e1:x++((44::32::a.txt)++(E.cL l).flatMap fun y=>44::32::y)=(x++[44]++[32]++a.txt)++(E.cL l).flatMap fun y=>44::32::y:=by simp
  rw [e1];exact h2.eq (by simp)
end
theorem gx.set {x:ai} {l:List K} (h:gx x l):dZ (x++[32,61,32]) (l++[kS [61]]):=by
 have:=(h.sp.apps (Ab (w:=[61]) av)).sp;simpa using this
theorem ua {w:ai} (hw:w∈words):dZ (w++[32]) [kS w]:=(Nr hw).sp
mutual
theorem WN:∀ s:S,s.ok=true->dZ (s.txt E.txt) s.tk
 | .set s a,h=>by
  simp only [S.ok,Bool.and_eq_true] at h;rw [S.txt,S.tk];exact (((jV h.1).set.apps (oW a h.2)).then (c:=59) av).eq (by simp)
 | .put s a b,h=>by
  simp only [S.ok,Bool.and_eq_true] at h;rw [S.txt,S.tk];have h1:=((((jV h.1).then (c:=91) av).apps (oW a h.2.1)).then (c:=93) av).s.set;have h2:=(h1.apps (oW b h.2.2)).then (c:=59) av
  have e:s++[91]++a.txt++[93,32,61,32]++b.txt++[59]=s++[91]++a.txt++[93]++[32,61,32]++b.txt++[59]:=by simp
  rw [e];exact h2.eq (by simp)
 | .if1 c b,h=>by
  simp only [S.ok,Bool.and_eq_true] at h;rw [S.txt,S.tk];have h1:=((((ua (w:=[105,102]) av).app (l6 (c:=40) av)).apps (oW c h.1)).then (c:=41) av).s.sp;have h2:=h1.app (lexB b h.2)
  have e:[105,102,32,40]++c.txt++[41,32]++(S.cL E.txt [123,32] b++[125])=[105,102]++[32]++[40]++c.txt++[41]++[32]++(S.cL E.txt [123,32] b++[125]):=by simp
  rw [e];exact h2.eq (by simp [dL])
 | .if2 c b b2,h=>by
  simp only [S.ok,Bool.and_eq_true] at h;rw [S.txt,S.tk];have h1:=((((ua (w:=[105,102]) av).app (l6 (c:=40) av)).apps (oW c h.1)).then (c:=41) av).s.sp;have h2:=h1.app (lexB b h.2.1);have h3:=((h2.s.sp.apps (Nr (w:=[101,108,115,101]) av)).sp).app (lexB b2 h.2.2)
  have e:[105,102,32,40]++c.txt++[41,32]++(S.cL E.txt [123,32] b++[125])++[32,101,108,115,101,32]++(S.cL E.txt [123,32] b2++[125])=[105,102]++[32]++[40]++c.txt++[41]++[32]++(S.cL E.txt [123,32] b++[125])++[32]++[101,108,115,101]++[32]++(S.cL E.txt [123,32] b2++[125]):=by simp
  rw [e];exact h3.eq (by simp [dL,ei])
 | .while_ c b,h=>by
  simp only [S.ok,Bool.and_eq_true] at h;rw [S.txt,S.tk];have h1:=((((ua (w:=[119,104,105,108,101]) av).app (l6 (c:=40) av)).apps (oW c h.1)).then (c:=41) av).s.sp;have h2:=h1.app (lexB b h.2)
  have e:[119,104,105,108,101,32,40]++c.txt++[41,32]++(S.cL E.txt [123,32] b++[125])=[119,104,105,108,101]++[32]++[40]++c.txt++[41]++[32]++(S.cL E.txt [123,32] b++[125]):=by simp
  rw [e];exact h2.eq (by simp [du])
 | .ret a,h=>by
  simp only [S.ok] at h;rw [S.txt,S.tk];have h1:=((ua (w:=[114,101,116,117,114,110]) av).apps (oW a h)).then (c:=59) av;exact h1.eq (by simp [db])
 | .do_ a,h=>by
  simp only [S.ok] at h;rw [S.txt,S.tk];exact (oW a h).then (c:=59) av
 | .var s a,h=>by
  simp only [S.ok,Bool.and_eq_true] at h;rw [S.txt,S.tk];have h1:=((((ua (w:=[118,97,114]) av).apps (jV h.1)).set).apps (oW a h.2)).then (c:=59) av;exact h1.eq (by simp [gw])
theorem lexB:∀ l:List S,S.cM l=true->dZ (S.cL E.txt [123,32] l++[125]) (kS [123]::(S.mF l++[kS [125]]))
 | l,h=>by
  have h0:dZ [123,32] [kS [123]]:=by
   have:=(l6 (c:=123) av).s.sp;simpa using this
  exact ((Rr l h _ _ h0).s.then (c:=125) av).eq (by simp)
theorem Rr:∀ l:List S,S.cM l=true->∀ acc m,dZ acc m->dZ (S.cL E.txt acc l) (m++S.mF l)
 | [],_,acc,m,h=>by rw [S.cL,S.mF,append_nil];exact h
 | a::l,ho,acc,m,h=>by
  simp only [S.cM,Bool.and_eq_true] at ho;rw [S.cL,S.mF];have h1:=(h.app (WN a ho.1)).s.sp;exact (Rr l ho.2 _ _ h1).eq (by simp)
end
theorem dZ.all {x:ai} {l:List K} (h:dZ x l):∃ ts,ts.map kf=l/\Tz x 0 ts x.length:=by
 obtain ⟨ts,h1,h2⟩:=h [] [];exact ⟨ts,h1,by simpa using h2⟩
theorem ID {l:List S} (h:S.cM l=true):dZ (eU E.txt l) (Ju l):=lexB l h
end Go.Sp
namespace Go.Im
open Go.Xp Go.Sp
def Mq (s:ai):List K:=[kS lp,kN s,kS [59]]
def Hz (a:Ar):List K:=[kS lp,kN a.name,kS [91],kI a.size,kS [93],kS [59]]
def uC:List ai->List K
 | []=>[]
 | s::r=>kS [44]::kN s::uC r
def FU:List ai->List K
 | []=>[]
 | s::r=>kN s::uC r
def HX (x:Fn × List S):List K:=kS mD::kN x.1.name::kS [40]::(FU x.1.params++kS [41]::Ju x.2)
def f2 (x:Fn × List S):ai:=((((([102,117,110,99,32]++x.1.name)++[40])++bD x.1.params)++[41,32])++eU E.txt x.2)++[10]
theorem IF:dZ [59,10] [kS [59]]:=(l6 (c:=59) av).app (xW (c:=10) av)
theorem WR {s:ai} (h:bs s=true):dZ (g1 s) (Mq s) :=
 ((ua (w:=lp) av).apps (jV h)).Ek IF (x7 (c:=59) (x:=[10]) av)
theorem WO {a:Ar} (h:og a=true):dZ (a1 a) (Hz a):=by
 unfold og at h;simp only [Bool.and_eq_true,Bool.not_eq_true',decide_eq_false_iff_not] at h;obtain ⟨⟨h1,h2⟩,h3⟩:=h
 have hz:nT a.size=cE a.size.toNat:=by unfold nT;rw [if_neg h2]
 have hk:kI a.size=kI ((a.size.toNat:Nat):Int):=by rw [Int.toNat_of_nonneg aq]
 have x1:=((ua (w:=lp) av).apps (jV h1)).then (c:=91) av;have x2:=x1.apps (IG (n:=a.size.toNat) aq);have x3:=x2.Ek ((l6 (c:=93) av).app IF) (x7 (c:=93) (x:=[59,10]) av);unfold a1 Hz;rw [hz,hk];exact x3
theorem Ns:∀ (ps:List ai),cw ps=true->∀ x m,gx x m->gx (x++ps.flatMap fun y=>44::32::y) (m++uC ps)
 | [],_,x,m,h=>by rw [List.flatMap_nil,append_nil,uC,append_nil];exact h
 | s::r,hp,x,m,h=>by
  unfold cw at hp;rw [all_cons,Bool.and_eq_true] at hp;have h1:=(h.then (c:=44) av).app KM;have h2:=h1.apps (jV hp.1);have h3:=Ns r hp.2 _ _ h2;rw [flatMap_cons,uC];refine gx.eq (cast (congrArg (fun z=>gx z _) ?_) h3) ?_
  ·simp
  ·simp
theorem WS {ps:List ai} (h:cw ps=true):gx (bD ps) (FU ps):=by
 match ps,h with
 | [],_=>exact dZ.nil.s
 | s::r,h =>
  unfold cw at h;rw [all_cons,Bool.and_eq_true] at h;exact Ns r h.2 s [kN s] (jV h.1)
theorem WQ {x:Fn × List S} (h1:bs x.1.name=true) (h2:cw x.1.params=true) (h3:S.cM x.2=true):dZ (f2 x) (HX x):=by
 have x1:=((ua (w:=mD) av).apps (jV h1)).then (c:=40) av;have x2:=(x1.apps (WS h2)).Ek ((l6 (c:=41) av).app KM) (x7 (c:=41) (x:=[32]) av);have x3:=(x2.app (ID h3)).app (xW (c:=10) av);refine dZ.eq x3 ?_;simp [HX]
theorem yD {α:Type} {f:α->ai} {k:α->List K}:∀ (l:List α),(∀ x∈l,dZ (f x) (k x))->∀ acc m,dZ acc m->dZ (de f acc l) (m++l.flatMap k)
 | [],_,acc,m,h=>by rw [de,List.flatMap_nil,append_nil];exact h
 | x::l,hl,acc,m,h=>by
  rw [de,flatMap_cons,<-append_assoc];exact yD l (fun y hy=>hl y (mem_cons_of_mem _ hy)) _ _ (h.app (hl x mem_cons_self))
theorem LJ {inl:List ai->Nat->ai}:∀ (fns:List Fn) (l:List T) (ls:List (List S)) (acc:ai),ls.length=l.length->(∀ (i:Nat) t b,l[i]?=some t->ls[i]?=some b->mZ cP inl 0 t=eU E.txt b) ->
  de (f1 cP inl) acc (fns.zip l)=de f2 acc (fns.zip ls)
 | [],l,ls,acc,_,_=>by simp [de]
 | f::r,[],[],acc,_,_=>by simp [de]
 | f::r,t::l,b::ls,acc,hl,h=>by
  have h0:=h 0 t b rfl rfl;rw [zip_cons_cons,zip_cons_cons,de,de,LJ r l ls _ (by simpa using hl) fun i t' b' h1 h2=>h (i+1) t' b' (by simpa using h1) (by simpa using h2)];simp only [f1,f2,h0]
 | f::r,[],b::ls,acc,hl,_=>by simp at hl
 | f::r,t::l,[],acc,hl,_=>by simp at hl
section
variable {p q:RS} {ts r rest:List Tok} {u:Tok} {s:ai}
theorem qa (h:On p (u::r)):tok p 0=u:=by rw [On.tok h];rfl
theorem zZ (h:On p (u::r)) (hk:kf u=kS s):is p 0 s=true:=by
 obtain ⟨h1,h2⟩:=dV hk;unfold is;rw [qa h,h1,h2];simp
theorem J3 (h:On p (u::r)) {k:K} (hk:kf u=k) (hn:k.1=3->k.2.2≠s):is p 0 s=false:=by
 unfold is;rw [qa h];subst hk
 by_cases h3:u.kind=3
 ·have:=hn h3;simp only [kf] at this;simp [h3,this]
 ·simp [h3]
theorem tH (h:On p (u::r)) (hk:kf u=kS s):want p s=p.next:=by unfold want;rw [if_pos h.code,if_pos (zZ h hk)]
theorem xY (h:On p (u::r)) (hk:kf u=kN s) (hl:bs s=true):br p=p.next:=by
 obtain ⟨h1,h2⟩:=pP hk;have:=l7 hl;unfold br;rw [if_pos h.code,qa h,if_pos h1,if_neg (by rw [h2];omega)]
theorem nx (h:On p (u::r)):On p.next r:=h.next.1
theorem en (h:On p (u::r)):p.next.l=p.l/\p.next.e=p.e:=⟨h.next.2.1,h.next.2.2⟩
theorem ZD (h:On p (u::r)):p.i < p.l.length:=by
 have:=congrArg List.length h.rest;rw [length_drop,length_cons] at this;omega
theorem Vk (h:On p []):¬ p.i < p.l.length:=by
 have:=congrArg List.length h.rest;rw [length_drop,length_nil] at this;omega
theorem Ir {G f:Nat} {st:PS} (h:p.code≠0) (hg:1<=G):ni G f p st=some (p,st):=by
 obtain ⟨G,rfl⟩:∃ g',G=g'+1:=⟨G - 1,by omega⟩;rw [ni,if_neg (fun hc=>h hc.1)]
theorem yC {f:Nat} {acc:List ai} (h:p.code≠0) (hg:1<=f):oK f acc p=some (acc,p):=by
 obtain ⟨f,rfl⟩:∃ g',f=g'+1:=⟨f - 1,by omega⟩;rw [oK,if_neg (fun hc=>h hc.1),fF h]
end
theorem Zx {f:Nat} {p:RS} {st:PS} {ts rest:List Tok} {s:ai} (hp:On p (ts++rest)) (ht:ts.map kf=Mq s) (hs:bs s=true) :
  ∃ q,iW f p st=some (q,{ st with globals:=st.globals++[s] })/\bF p q (.ok rest):=by
 obtain ⟨u,r,rfl,h1,ht⟩:=map_cons ht;obtain ⟨v,r,rfl,h2,ht⟩:=map_cons ht;obtain ⟨w,rfl,h3⟩:=gP ht;simp only [cons_append,nil_append] at hp;have p1:=nx hp;have p2:=nx p1;have p3:=nx p2;refine ⟨p.next.next.next,?_,p3,by rw [(en p2).1,(en p1).1,(en hp).1],by rw [(en p2).2,(en p1).2,(en hp).2]⟩;unfold iW;rw [if_pos (zZ hp h1),xY p1 h2 hs,J3 p2 h3 av,if_neg (by rintro ⟨_,h⟩;cases h),tH p2 h3,qa p1,(pP h2).2]
theorem Zv {f:Nat} {p:RS} {st:PS} {ts rest:List Tok} {a:Ar} (hp:On p (ts++rest)) (ht:ts.map kf=Hz a) (hs:bs a.name=true) :
  ∃ q,iW f p st=some (q,{ st with arrays:=st.arrays++[a] })/\bF p q (.ok rest):=by
 obtain ⟨u,r,rfl,h1,ht⟩:=map_cons ht;obtain ⟨v,r,rfl,h2,ht⟩:=map_cons ht;obtain ⟨w,r,rfl,h3,ht⟩:=map_cons ht;obtain ⟨x,r,rfl,h4,ht⟩:=map_cons ht;obtain ⟨y,r,rfl,h5,ht⟩:=map_cons ht;obtain ⟨z,rfl,h6⟩:=gP ht;simp only [cons_append,nil_append] at hp;have p1:=nx hp;have p2:=nx p1;have p3:=nx p2;have p4:=nx p3;have p5:=nx p4;have p6:=nx p5;refine ⟨p.next.next.next.next.next.next,?_,p6,by rw [(en p5).1,(en p4).1,(en p3).1,(en p2).1,(en p1).1,(en hp).1],by rw [(en p5).2,(en p4).2,(en p3).2,(en p2).2,(en p1).2,(en hp).2]⟩;unfold iW;rw [if_pos (zZ hp h1),xY p1 h2 hs,if_pos ⟨p2.code,zZ p2 h3⟩,qa p3,if_pos (Px h4).1,tH p4 h5,tH p5 h6,qa p1,(pP h2).2,(Px h4).2]
theorem Rk {rest:List Tok} {u:Tok} (hu:kf u=kS [41]):∀ (ps:List ai) (f:Nat) (acc:List ai) (p:RS) (ts:List Tok),ps.length < f->acc≠[]->cw ps=true->On p (ts++u::rest)->ts.map kf=uC ps ->
  ∃ q,oK f acc p=some (acc++ps,q)/\bF p q (.ok rest)
 | [],f,acc,p,ts,hf,ha,_,hp,ht=>by
  obtain ⟨f,rfl⟩:∃ g',f=g'+1:=⟨f - 1,by omega⟩
  have:ts=[]:=by simpa [uC] using ht
  subst this;rw [nil_append] at hp;refine ⟨p.next,?_,nx hp,en hp⟩;rw [oK,if_neg (by rw [zZ hp hu];rintro ⟨_,h⟩;cases h),tH hp hu,append_nil]
 | s::ps,f,acc,p,ts,hf,ha,hn,hp,ht=>by
  obtain ⟨f,rfl⟩:∃ g',f=g'+1:=⟨f - 1,by omega⟩;rw [uC] at ht;obtain ⟨v,r,rfl,h1,ht⟩:=map_cons ht;obtain ⟨w,r,rfl,h2,ht⟩:=map_cons ht;unfold cw at hn;rw [all_cons,Bool.and_eq_true] at hn;simp only [cons_append] at hp;have p1:=nx hp;have p2:=nx p1
  have hal:acc.length≠0:=fun h=>ha (eq_nil_of_length_eq_zero h)
  rw [length_cons] at hf
  obtain ⟨q,h3,h4⟩:=Rk hu ps f (acc++[s]) p.next.next r aq (by simp) hn.2 p2 ht
  refine ⟨q,?_,h4.1,by rw [h4.2.1,(en p1).1,(en hp).1],by rw [h4.2.2,(en p1).2,(en hp).2]⟩;rw [oK,if_pos ⟨hp.code,J3 hp h1 av⟩,if_neg hal,tH hp h1,qa p1,(pP h2).2,xY p1 h2 hn.1,h3];simp
theorem WB {rest:List Tok} {u:Tok} (hu:kf u=kS [41]) (ps:List ai) (f:Nat) (p:RS) (ts:List Tok) (hf:ps.length < f) (hn:cw ps=true) (hp:On p (ts++u::rest)) (ht:ts.map kf=FU ps) :
  ∃ q,oK f [] p=some (ps,q)/\bF p q (.ok rest):=by
 obtain ⟨f,rfl⟩:∃ g',f=g'+1:=⟨f - 1,by omega⟩
 match ps,hn,ht,hf with
 | [],_,ht,_ =>
  have:ts=[]:=by simpa [FU] using ht
  subst this;rw [nil_append] at hp;refine ⟨p.next,?_,nx hp,en hp⟩;rw [oK,if_neg (by rw [zZ hp hu];rintro ⟨_,h⟩;cases h),tH hp hu]
 | s::ps,hn,ht,hf =>
  rw [FU] at ht;obtain ⟨w,r,rfl,h2,ht⟩:=map_cons ht;unfold cw at hn;rw [all_cons,Bool.and_eq_true] at hn;simp only [cons_append] at hp;have p2:=nx hp;rw [length_cons] at hf
  obtain ⟨q,h3,h4⟩:=Rk hu ps f ([]++[s]) p.next r aq (by simp) hn.2 p2 ht
  refine ⟨q,?_,h4.1,by rw [h4.2.1,(en hp).1],by rw [h4.2.2,(en hp).2]⟩;rw [oK,if_pos ⟨hp.code,J3 hp h2 (fun h=>by cases h)⟩,if_pos (by rfl),qa hp,(pP h2).2,xY hp h2 hn.1,h3];rfl
def fW (p:RS):Nat:=40 * p.l.length+100
theorem FV:∀ ps:List ai,ps.length<=(uC ps).length
 | []=>Nat.zero_le _
 | s::r=>by have:=FV r;rw [uC,length_cons,length_cons,length_cons];omega
theorem SV (ps:List ai):ps.length<=(FU ps).length:=by
 cases ps with
 | nil=>exact Nat.zero_le _
 | cons s r=>have:=FV r;rw [FU,length_cons,length_cons];omega
theorem On.len {p:RS} {ts:List Tok} (h:Go.Sp.On p ts):ts.length<=p.l.length:=by
 rw [<-h.rest,length_drop];omega
theorem U6 {f:Nat} {q:RS} {ts:List Tok} (hq:Go.Sp.On q ts) (hs:sy q.l) (hf:fW q<=f):∃ t q',iS f (.block 1) q=some (t,q')/\iQ q q' t (block q.e 1 ts):=by
 obtain ⟨t,q',h1,h2⟩:=(is_ (mn ts)).block 1 ts q hq hs vL;have:=On.len hq;exact ⟨t,q',h1 f (by unfold KI mn;unfold fW at hf;omega),h2⟩
theorem Zw {f:Nat} {p:RS} {st:PS} {ts rest:List Tok} {x:Fn × List S} (hp:On p (ts++rest)) (hs:sy p.l) (hf:fW p<=f) (ht:ts.map kf=HX x) (h1:bs x.1.name=true) (h2:cw x.1.params=true) (h3:S.cM x.2=true) :
  (eu x.2 1=true->∃ q t,iW f p st=some (q,{ st with trees:=st.trees++[t],fns:=st.fns++[(x.1.name,x.1.params)] })/\er t=bG x.2/\bF p q (.ok rest)) /\
  (eu x.2 1=false->∃ q dT,iW f p st=some (q,dT)/\q.code≠0):=by
 obtain ⟨u,r,rfl,k1,ht⟩:=map_cons ht;obtain ⟨v,r,rfl,k2,ht⟩:=map_cons ht;obtain ⟨w,r,rfl,k3,ht⟩:=map_cons ht;obtain ⟨A,r,rfl,k4,ht⟩:=da ht;obtain ⟨y,r,rfl,k5,ht⟩:=map_cons ht;simp only [cons_append,append_assoc] at hp;have p1:=nx hp;have p2:=nx p1;have p3:=nx p2
 have hl:p.next.next.next.l=p.l:=by rw [(en p2).1,(en p1).1,(en hp).1]
 have hA:x.1.params.length<=A.length:=by have:=SV x.1.params;rw [<-k4,length_map] at this;exact this
 have cW:=On.len p3;simp only [length_append] at cW;rw [hl] at cW
 have MJ:x.1.params.length < f:=by unfold fW at hf;omega
 obtain ⟨q,h4,h5⟩:=WB k5 x.1.params f p.next.next.next A MJ h2 p3 k4
 have qk:q.l=p.l:=h5.2.1.trans hl;obtain ⟨t,q',h6,h7⟩:=U6 (f:=f) h5.1 (by rw [qk];exact hs) (by unfold fW at hf |-;rw [qk];exact hf);obtain ⟨r1,r2⟩:=En (e:=q.e) (d:=1) (rest:=rest) h3 ht
 have hw:iW f p st=some (q',{ st with trees:=st.trees++[t],fns:=st.fns++[(x.1.name,x.1.params)] }):=by
  unfold iW;rw [if_neg (by rw [J3 hp k1 av];decide),if_pos (zZ hp k1),xY p1 k2 h1,tH p2 k3,h4];simp only;rw [if_pos h5.1.code,h6,qa p1,(pP k2).2]
 refine ⟨fun uA=>?_,fun uA=>?_⟩
 ·obtain ⟨t',j1,j2⟩:=r1 uA;rw [j2] at h7;obtain ⟨rfl,j3⟩:=h7;exact ⟨q',t,hw,j1,j3.1,j3.2.1.trans qk,j3.2.2.trans (h5.2.2.trans (by rw [(en p2).2,(en p1).2,(en hp).2]))⟩
 ·obtain ⟨pos,j2⟩:=r2 uA;rw [j2] at h7;exact ⟨q',_,hw,bF.err h7⟩
theorem qx {G f:Nat} {p q:RS} {st dT:PS} {u:Tok} {r:List Tok} (hp:On p (u::r)) (h:iW f p st=some (q,dT)):ni (G+1) f p st=ni G f q dT:=by
 rw [ni,if_pos ⟨hp.code,ZD hp⟩,h]
theorem Rn {f:Nat} {rest:List Tok}:∀ (gs:List ai) (p:RS) (st:PS) (ts:List Tok),On p (ts++rest)->ts.map kf=gs.flatMap Mq->cw gs=true ->
  ∃ q,bF p q (.ok rest)/\∀ G,ni (G+gs.length) f p st=ni G f q { st with globals:=st.globals++gs }
 | [],p,st,ts,hp,ht,_=>by
  have:ts=[]:=by simpa using ht
  subst this;exact ⟨p,On.self hp,fun G=>by simp⟩
 | s::gs,p,st,ts,hp,ht,hn=>by
  rw [flatMap_cons] at ht;obtain ⟨A,B,rfl,h1,h2⟩:=da ht;unfold cw at hn;rw [all_cons,Bool.and_eq_true] at hn;rw [append_assoc] at hp;obtain ⟨q,h3,h4⟩:=Zx (f:=f) (st:=st) hp h1 hn.1;obtain ⟨q',h5,h6⟩:=Rn gs q { st with globals:=st.globals++[s] } B h4.1 h2 hn.2;refine ⟨q',h4.tr h5,fun G=>?_⟩;obtain ⟨u,r,rfl,_,_⟩:=map_cons h1;rw [length_cons,<-Nat.add_assoc,qx hp h3,h6];simp
theorem Rl {f:Nat} {rest:List Tok}:∀ (as:List Ar) (p:RS) (st:PS) (ts:List Tok),On p (ts++rest)->ts.map kf=as.flatMap Hz->as.all og=true ->
  ∃ q,bF p q (.ok rest)/\∀ G,ni (G+as.length) f p st=ni G f q { st with arrays:=st.arrays++as }
 | [],p,st,ts,hp,ht,_=>by
  have:ts=[]:=by simpa using ht
  subst this;exact ⟨p,On.self hp,fun G=>by simp⟩
 | s::gs,p,st,ts,hp,ht,hn=>by
  rw [flatMap_cons] at ht;obtain ⟨A,B,rfl,h1,h2⟩:=da ht;rw [all_cons,Bool.and_eq_true] at hn;rw [append_assoc] at hp
  have eN:bs s.name=true:=by have:=hn.1;unfold og at this;simp only [Bool.and_eq_true] at this;exact this.1.1
  obtain ⟨q,h3,h4⟩:=Zv (f:=f) (st:=st) hp h1 eN;obtain ⟨q',h5,h6⟩:=Rl gs q { st with arrays:=st.arrays++[s] } B h4.1 h2 hn.2;refine ⟨q',h4.tr h5,fun G=>?_⟩;obtain ⟨u,r,rfl,_,_⟩:=map_cons h1;rw [length_cons,<-Nat.add_assoc,qx hp h3,h6];simp
def V0 (x:Fn × List S):Prop:=bs x.1.name=true/\cw x.1.params=true/\S.cM x.2=true
theorem Rm {f:Nat}:∀ (xs:List (Fn × List S)) (p:RS) (st:PS) (ts:List Tok),On p ts->sy p.l->fW p<=f->ts.map kf=xs.flatMap HX->(∀ x∈xs,V0 x) ->
  ((xs.all fun x=>eu x.2 1)=true->∃ q l,(∀ G,xs.length < G->ni G f p st=some (q,{ st with trees:=st.trees++l,fns:=st.fns++xs.map fun x=>(x.1.name,x.1.params) }))/\q.code=0/\aP l=xs.map fun x=>bG x.2) /\
  ((xs.all fun x=>eu x.2 1)=false->∃ q dT,(∀ G,xs.length < G->ni G f p st=some (q,dT))/\q.code≠0)
 | [],p,st,ts,hp,_,_,ht,_=>by
  have:ts=[]:=by simpa using ht
  subst this;refine ⟨fun _=>⟨p,[],fun G hG=>?_,hp.code,by rw [aP];rfl⟩,fun h=>by cases h⟩;obtain ⟨G,rfl⟩:∃ g',G=g'+1:=⟨G - 1,by rw [length_nil] at hG;omega⟩;rw [ni,if_neg (fun hc=>Vk hp hc.2)];simp
 | x::xs,p,st,ts,hp,hs,hf,ht,hx=>by
  rw [flatMap_cons] at ht;obtain ⟨A,B,rfl,h1,h2⟩:=da ht;obtain ⟨x1,x2,x3⟩:=hx x mem_cons_self;obtain ⟨k1,k2⟩:=Zw (st:=st) hp hs hf h1 x1 x2 x3
  have bJ:∃ u r,A++B=u::r:=by obtain ⟨u,r,rfl,_,_⟩:=map_cons h1;exact ⟨u,_,rfl⟩
  obtain ⟨u,r,hu⟩:=bJ;rw [hu] at hp
  cases hb:eu x.2 1 with
  | false =>
   obtain ⟨q,dT,k3,k4⟩:=k2 hb;refine ⟨fun h=>(by rw [all_cons,hb] at h;cases h),fun _=>⟨q,dT,fun G hG=>?_,k4⟩⟩;obtain ⟨G,rfl⟩:∃ g',G=g'+1:=⟨G - 1,by rw [length_cons] at hG;omega⟩;rw [qx hp k3,Ir k4 (by rw [length_cons] at hG;omega)]
  | true =>
   obtain ⟨q,t,k3,k4,k5⟩:=k1 hb;have qk:q.l=p.l:=k5.2.1;obtain ⟨j1,j2⟩:=Rm (f:=f) xs q { st with trees:=st.trees++[t],fns:=st.fns++[(x.1.name,x.1.params)] } B k5.1 (by rw [qk];exact hs) (by unfold fW at hf |-;rw [qk];exact hf) h2 (fun y hy=>hx y (mem_cons_of_mem _ hy));rw [all_cons,hb,Bool.true_and];refine ⟨fun h=>?_,fun h=>?_⟩
   ·obtain ⟨q',l,j3,j4,j5⟩:=j1 h;refine ⟨q',t::l,fun G hG=>?_,j4,by rw [aP,k4,j5];rfl⟩;obtain ⟨G,rfl⟩:∃ g',G=g'+1:=⟨G - 1,by rw [length_cons] at hG;omega⟩;rw [qx hp k3,j3 G (by rw [length_cons] at hG;omega)];simp
   ·obtain ⟨q',dT,j3,j4⟩:=j2 h;refine ⟨q',dT,fun G hG=>?_,j4⟩;obtain ⟨G,rfl⟩:∃ g',G=g'+1:=⟨G - 1,by rw [length_cons] at hG;omega⟩;rw [qx hp k3,j3 G (by rw [length_cons] at hG;omega)]
theorem NJ (G:List ai) (As:List Ar) (xs:List (Fn × List S)) (h1:cw G=true) (h2:As.all og=true) (h3:∀ x∈xs,V0 x) :
  ∃ ts,Tz (de f2 (de a1 (de g1 [] G) As) xs) 0 ts (de f2 (de a1 (de g1 [] G) As) xs).length /\
  (sy ts->∀ (e:Int) (g f:Nat),ts.length+1<=g->40 * ts.length+100<=f ->
   ((xs.all fun x=>eu x.2 1)=true->∃ q l,ni g f ⟨ts,0,e,0,0⟩ .empty=some (q,⟨l,G,As,xs.map fun x=>(x.1.name,x.1.params)⟩)/\q.code=0/\aP l=xs.map fun x=>bG x.2) /\
   ((xs.all fun x=>eu x.2 1)=false->∃ q dT,ni g f ⟨ts,0,e,0,0⟩ .empty=some (q,dT)/\q.code≠0)):=by
 have l1:=yD (f:=g1) (k:=Mq) G (fun s hs=>WR (List.all_eq_true.1 h1 s hs)) [] [] dZ.nil;have l2:=yD (f:=a1) (k:=Hz) As (fun s hs=>WO (List.all_eq_true.1 h2 s hs)) _ _ l1;have l3:=yD (f:=f2) (k:=HX) xs (fun x hx=>by obtain ⟨a,b,c⟩:=h3 x hx;exact WQ a b c) _ _ l2;obtain ⟨ts,k1,k2⟩:=l3.all;refine ⟨ts,k2,fun hs e g f hg hf=>?_⟩;rw [nil_append] at k1;obtain ⟨A,C,rfl,k3,k4⟩:=da k1;obtain ⟨A,B,rfl,k5,k6⟩:=da k3;have Db:On ⟨(A++B)++C,0,e,0,0⟩ (A++(B++C)):=⟨rfl,Nat.zero_le _,by simp,k2.kinds⟩;obtain ⟨q1,j1,j2⟩:=Rn (f:=f) G _ .empty A Db k5 h1;obtain ⟨q2,j3,j4⟩:=Rl (f:=f) As q1 _ B j1.1 k6 h2;have qk:q2.l=(A++B)++C:=(j1.tr j3).2.1;obtain ⟨j5,j6⟩:=Rm (f:=f) xs q2 { ({ PS.empty with globals:=PS.empty.globals++G }:PS) with arrays:=PS.empty.arrays++As } C j3.1 (by rw [qk];exact hs) (by unfold fW;rw [qk];exact hf) k4 h3
 have c1:G.length<=A.length:=by
  have:=congrArg List.length k5;rw [length_map] at this;rw [this];clear this k5 j1 j2 j3 j4 j5 j6 qk Db hs k1 k2 k3 l1 l2 l3 hf hg h1
  induction G with
  | nil=>exact Nat.le_refl _
  | cons s G ih=>rw [flatMap_cons,length_append,length_cons];simp only [Mq,length_cons,length_nil];omega
 have c2:As.length<=B.length:=by
  have:=congrArg List.length k6;rw [length_map] at this;rw [this];clear this k6 j1 j2 j3 j4 j5 j6 qk Db hs k1 k2 k3 l1 l2 l3 hf hg h2
  induction As with
  | nil=>exact Nat.le_refl _
  | cons s G ih=>rw [flatMap_cons,length_append,length_cons];simp only [Hz,length_cons,length_nil];omega
 have c3:xs.length<=C.length:=by
  have:=congrArg List.length k4;rw [length_map] at this;rw [this];clear this k4 j1 j2 j3 j4 j5 j6 qk Db hs k1 k2 k3 l1 l2 l3 hf hg h3
  induction xs with
  | nil=>exact Nat.le_refl _
  | cons s G ih=>rw [flatMap_cons,length_append,length_cons];simp only [HX,length_cons];omega
 rw [length_append,length_append] at hg;have mT:∃ g',xs.length < g'/\g=g'+As.length+G.length:=⟨g - As.length - G.length,by omega,by omega⟩;obtain ⟨g',jQ,rfl⟩:=mT;rw [j2,j4];refine ⟨fun h=>?_,fun h=>?_⟩
 ·obtain ⟨q,l,j7,j8,j9⟩:=j5 h;exact ⟨q,l,j7 g' jQ,j8,j9⟩
 ·obtain ⟨q,dT,j7,j8⟩:=j6 h;exact ⟨q,dT,j7 g' jQ,j8⟩
structure BG (st:PS):Prop where
 globals:cw st.globals=true
 arrays:st.arrays.all og=true
 fns:∀ x∈st.fns,bs x.1=true/\cw x.2=true
 trees:∀ t∈st.trees,BF t
 len:st.fns.length=st.trees.length
theorem zp {a b:List ai} (h:cw a=true) (k:cw b=true):cw (a++b)=true:=by
 unfold cw at *;rw [List.all_append,h,k];rfl
theorem zq {s:ai} (h:bs s=true):cw [s]=true:=by
 unfold cw;rw [all_cons,h];rfl
theorem Sf.len {a b:List Tok} {n:Nat} (h:Sf a b n):b.length+n<=a.length:=by
 obtain ⟨p,rfl,h⟩:=h;rw [length_append];omega
theorem Ip:∀ (f:Nat) (acc:List ai) (p:RS) (ts:List Tok),On p ts->qZ ts->ts.length+1 < f->cw acc=true ->
  ∃ l q,oK f acc p=some (l,q)/\((∃ r n,bF p q (.ok r)/\cw l=true/\Sf ts r n)\/q.code≠0)
 | 0,acc,p,ts,_,_,hf,_=>by omega
 | f+1,acc,p,ts,hp,ho,hf,hn=>by
  rw [oK]
  by_cases hc:p.code=0/\is p 0 [41]=false
  ·rw [if_pos hc]
   have iT:(∃ r,bF p (if acc.length=0 then p else want p [44]) (.ok r)/\Sf ts r 0)\/(if acc.length=0 then p else want p [44]).code≠0:=by
    by_cases ha:acc.length=0
    ·rw [if_pos ha];exact .inl ⟨ts,On.self hp,.nil _⟩
    ·rw [if_neg ha]
     rcases lN hp (s:=[44]) av with ⟨r,h1,h2⟩ | ⟨x,h1,h2⟩
     ·exact .inl ⟨r,h2,(Sf.aO av h1).le (Nat.zero_le _)⟩
     ·exact .inr (bF.err h2)
   generalize (if acc.length=0 then p else want p [44])=p' at *
   rcases iT with ⟨r,h1,h2⟩ | h1
   ·rcases tj h1.1 with ⟨r2,h3,h4⟩ | ⟨x,h3,h4⟩
    ·obtain ⟨k1,k2⟩:=Sf.name h3 (h2.ok ho);have hlen:=(h2.trans k1).len;obtain ⟨l,q,k3,k4⟩:=Ip f (acc++[(tok p' 0).s]) (br p') r2 h4.1 ((h2.trans k1).ok ho) aq (zp hn (zq k2));refine ⟨l,q,k3,?_⟩
     rcases k4 with ⟨r3,n,k5,k6,k7⟩ | k5
     ·exact .inl ⟨r3,_,(h1.tr h4).tr k5,k6,(h2.trans k1).trans k7⟩
     ·exact .inr k5
    ·exact ⟨_,_,yC (bF.err h4) aq,.inr (bF.err h4)⟩
   ·rw [Ny h1];exact ⟨_,_,yC h1 aq,.inr h1⟩
  ·rw [if_neg hc]
   rcases lN hp (s:=[41]) av with ⟨r,h1,h2⟩ | ⟨x,h1,h2⟩
   ·exact ⟨acc,_,rfl,.inl ⟨r,1,h2,hn,Sf.aO av h1⟩⟩
   ·exact ⟨acc,_,rfl,.inr (bF.err h2)⟩
theorem U8 {f:Nat} {p:RS} {st:PS} {u:Tok} {r0:List Tok} (hp:On p (u::r0)) (ho:qZ (u::r0)) (hs:sy p.l) (hf:fW p<=f) (b7:BG st) :
  ∃ q dT,iW f p st=some (q,dT)/\((∃ r n,bF p q (.ok r)/\BG dT/\Sf (u::r0) r (n+1)/\aB dT.trees<=n+1+aB st.trees)\/q.code≠0):=by
 have p1:=nx hp;have gz:=Sf.one u r0;unfold iW
 by_cases h1:is p 0 lp=true
 ·rw [if_pos h1]
  rcases tj p1 with ⟨r1,a1,a2⟩ | ⟨x,a1,a2⟩
  ·obtain ⟨b1,b2⟩:=Sf.name a1 (gz.ok ho);have b3:=gz.trans b1;have a3:bF p (br p.next) (.ok r1):=(On.next hp).tr a2
   by_cases h2:(br p.next).code=0/\is (br p.next) 0 [91]=true
   ·rw [if_pos h2]
    have h3:sign r1 0=[91]:=by
     have:=On.is a2.1 0 (s:=[91]) av;rw [h2.2] at this;simpa using this.symm
    obtain ⟨v,h4,_⟩:=tz av h3;have b4:=b3.trans (Sf.sign av h3);have p2:=a2.1;rw [h4] at p2
    have a4:bF p (br p.next).next (.ok r1.tail):=a3.tr (On.next p2)
    have p3:=nx p2
    by_cases h5:(tok (br p.next).next 0).kind=1
    ·rw [if_pos h5]
     cases hr:r1.tail with
     | nil =>
      rw [hr] at p3;have:=On.tok p3 0;rw [this] at h5;cases h5
     | cons w r3 =>
      rw [hr] at p3 a4 b4;have p4:=nx p3;have b5:=b4.trans (Sf.one w r3);have a5:=a4.tr (On.next p3);rw [qa p3] at h5;have hw:=(b4.ok ho w mem_cons_self).num h5
      rcases lN p4 (s:=[93]) av with ⟨r4,c1,c2⟩ | ⟨x,c1,c2⟩
      ·rcases lN c2.1 (s:=[59]) av with ⟨r5,d1,d2⟩ | ⟨x,d1,d2⟩
       ·refine ⟨_,_,rfl,.inl ⟨r5,0,(a5.tr c2).tr d2,⟨b7.globals,?_,b7.fns,b7.trees,b7.len⟩,((b5.trans (Sf.aO av c1)).trans (Sf.aO av d1)).le aq,by simp only;omega⟩⟩;simp only;rw [List.all_append,b7.arrays,all_cons,List.all_nil,Bool.and_true,Bool.true_and];unfold og;rw [qa p3,b2];simp only [Bool.and_eq_true,Bool.not_eq_true',decide_eq_false_iff_not];exact ⟨⟨trivial,by omega⟩,by omega⟩
       ·exact ⟨_,_,rfl,.inr (bF.err d2)⟩
      ·refine ⟨_,_,rfl,.inr ?_⟩;rw [fF (bF.err c2)];exact bF.err c2
    ·rw [if_neg h5];exact ⟨_,_,rfl,.inr (bF.err (On.kg p3))⟩
   ·rw [if_neg h2]
    rcases lN a2.1 (s:=[59]) av with ⟨r4,c1,c2⟩ | ⟨x,c1,c2⟩
    ·exact ⟨_,_,rfl,.inl ⟨r4,0,a3.tr c2,⟨zp b7.globals (zq b2),b7.arrays,b7.fns,b7.trees,b7.len⟩,(b3.trans (Sf.aO av c1)).le aq,by simp only;omega⟩⟩
    ·exact ⟨_,_,rfl,.inr (bF.err c2)⟩
  ·rw [if_neg (fun h=>bF.err a2 h.1),fF (bF.err a2)];exact ⟨_,_,rfl,.inr (bF.err a2)⟩
 ·rw [if_neg h1]
  by_cases h2:is p 0 mD=true
  ·rw [if_pos h2]
   rcases tj p1 with ⟨r1,a1,a2⟩ | ⟨x,a1,a2⟩
   ·obtain ⟨b1,b2⟩:=Sf.name a1 (gz.ok ho);have b3:=gz.trans b1;have a3:bF p (br p.next) (.ok r1):=(On.next hp).tr a2
    rcases lN a2.1 (s:=[40]) av with ⟨r2,c1,c2⟩ | ⟨x,c1,c2⟩
    ·have b4:=b3.trans (Sf.aO av c1);have a4:=a3.tr c2;have hl:=On.len c2.1;have jC:(want (br p.next) [40]).l=p.l:=a4.2.1;obtain ⟨l,q,k1,k2⟩:=Ip f [] _ r2 c2.1 (b4.ok ho) (by rw [jC] at hl;unfold fW at hf;omega) rfl;rw [k1];simp only
     rcases k2 with ⟨r3,n,k3,k4,k5⟩ | k3
     ·have a5:=a4.tr k3;have qk:q.l=p.l:=a5.2.1;rw [if_pos k3.1.code];obtain ⟨t,q',k6,k7⟩:=U6 (f:=f) k3.1 (by rw [qk];exact hs) (by unfold fW at hf |-;rw [qk];exact hf);rw [k6];simp only;have b5:=b4.trans k5
      cases hb:block q.e 1 r3 with
      | error x=>rw [hb] at k7;exact ⟨_,_,rfl,.inr (bF.err k7)⟩
      | ok y =>
       obtain ⟨t',r4⟩:=y;rw [hb] at k7;obtain ⟨rfl,k7⟩:=k7;obtain ⟨k8,k9⟩:=Jv (b5.ok ho) hb;refine ⟨_,_,rfl,.inl ⟨r4,n+aR t+2,a5.tr k7,⟨b7.globals,b7.arrays,?_,?_,?_⟩,(b5.trans k9).le aq,?_⟩⟩
       ·intro x hx
        rcases List.mem_append.1 hx with hx | hx
        ·exact b7.fns x hx
        ·rw [mem_singleton] at hx;subst hx;exact ⟨b2,k4⟩
       ·intro x hx
        rcases List.mem_append.1 hx with hx | hx
        ·exact b7.trees x hx
        ·rw [mem_singleton] at hx;subst hx;exact k8
       ·simp only [length_append,length_cons,length_nil];have:=b7.len;omega
       ·simp only [mO,aB];omega
     ·rw [if_neg k3];exact ⟨_,_,rfl,.inr k3⟩
    ·rw [yC (bF.err c2) (by unfold fW at hf;omega)];simp only;rw [if_neg (bF.err c2)];exact ⟨_,_,rfl,.inr (bF.err c2)⟩
   ·rw [fF (bF.err a2),yC (bF.err a2) (by unfold fW at hf;omega)];simp only;rw [if_neg (bF.err a2)];exact ⟨_,_,rfl,.inr (bF.err a2)⟩
  ·rw [if_neg h2];exact ⟨_,_,rfl,.inr (bF.err (On.kg hp))⟩
theorem Iq {f:Nat}:∀ (G:Nat) (p:RS) (st:PS) (ts:List Tok),On p ts->qZ ts->sy p.l->fW p<=f->BG st->ts.length < G ->
  ∃ q dT,ni G f p st=some (q,dT)/\(q.code=0->BG dT/\aB dT.trees<=ts.length+aB st.trees)
 | 0,p,st,ts,_,_,_,_,_,hG=>by omega
 | G+1,p,st,ts,hp,ho,hs,hf,b7,hG=>by
  cases ts with
  | nil =>
   rw [ni,if_neg (fun hc=>Vk hp hc.2)];exact ⟨p,st,rfl,fun _=>⟨b7,by simp⟩⟩
  | cons u r0 =>
   obtain ⟨q,dT,h1,h2⟩:=U8 hp ho hs hf b7;rw [qx hp h1];rw [length_cons] at hG
   rcases h2 with ⟨r,n,h3,h4,h5,h6⟩ | h3
   ·have hl:=h5.len;rw [length_cons] at hl;have qk:q.l=p.l:=h3.2.1;obtain ⟨q',st2,k1,k2⟩:=Iq G q dT r h3.1 (h5.ok ho) (by rw [qk];exact hs) (by unfold fW at hf |-;rw [qk];exact hf) h4 aq;exact ⟨q',st2,k1,fun hc=>by obtain ⟨k3,k4⟩:=k2 hc;exact ⟨k3,by rw [length_cons];omega⟩⟩
   ·exact ⟨q,dT,Ir h3 aq,fun hc=>absurd hc h3⟩
def oQ (st:PS):List Fn:=st.fns.mapIdx fun i x=>⟨x.1,x.2,((aB (st.trees.take i):Nat):Int)⟩
def same (p:Src) (st:PS):Bool:=fc (fun x y=>x==y) p.globals st.globals&&(fc y7 p.arrays st.arrays&&(fc qU p.fns (oQ st)&&fc kO p.nodes (eg 0 st.trees)))
structure Reads (x:ai) (ts:List Tok) (c z:Int) (q:RS) (st:PS):Prop where
 lex:mV x (x.length+1) 0 []=some (ts,c,z)
 len:ts.length<=x.length
 read:ni (ts.length+1) (40 * ts.length+100) ⟨ts,0,(x.length:Int),0,0⟩ .empty=some (q,st)
 ok:q.code=0->BG st/\aB st.trees<=ts.length
theorem reads (x:ai):∃ ts c z q st,Reads x ts c z q st:=by
 obtain ⟨ts,c,z,h1,h2,h3,h4⟩:=rp x (x.length+1) 0 [] (Nat.zero_le _) aq (fun t h=>by simp at h) .nil (fun t h=>by simp at h) (Nat.le_refl _);have Db:On ⟨ts,0,(x.length:Int),0,0⟩ ts:=⟨rfl,Nat.zero_le _,rfl,fun t ht=>(h2 t ht).kinds⟩;obtain ⟨q,st,h5,h6⟩:=Iq (f:=40 * ts.length+100) (ts.length+1) _ .empty ts Db h2 h3 (Nat.le_refl _) ⟨rfl,rfl,fun x h=>(by cases h),fun x h=>(by cases h),rfl⟩ aq;exact ⟨ts,c,z,q,st,h1,h4,h5,fun h=>by obtain ⟨a,b⟩:=h6 h;exact ⟨a,by simpa [PS.empty,aB] using b⟩⟩
structure Forms (l:List T) (ls:List (List S)):Prop where
 len:ls.length=l.length
 at_:∀ (i:Nat) t b,l[i]?=some t->ls[i]?=some b->S.cM b=true/\er t=bG b
theorem EL:∀ (l:List T),(∀ t∈l,BF t)->∃ ls,Forms l ls
 | [],_=>⟨[],rfl,fun i t b h=>by simp at h⟩
 | t::l,h=>by
  obtain ⟨b,h1,h2⟩:=h t mem_cons_self
  obtain ⟨ls,h3⟩:=EL l fun u hu=>h u (mem_cons_of_mem _ hu)
  refine ⟨b::ls,by simp [h3.len],fun i t' b' k1 k2=>?_⟩
  cases i with
  | zero=>cases k1;cases k2;exact ⟨h1,h2⟩
  | succ i=>exact h3.at_ i t' b' (by simpa using k1) (by simpa using k2)
theorem fw.mem {Q:Fn->T->Prop}:∀ {fns:List Fn} {a:Nat} {l:List T},fw Q fns a l->(∀ f∈fns,∃ t∈l,Q f t)/\(∀ t∈l,∃ f∈fns,Q f t)
 | [],_,[],_=>⟨fun f h=>(by cases h),fun f h=>(by cases h)⟩
 | f::r,a,t::l,h=>by
  rw [fw] at h;obtain ⟨k1,k2⟩:=fw.mem h.2.2;refine ⟨fun g hg=>?_,fun u hu=>?_⟩
  ·rcases List.mem_cons.1 hg with rfl | hg
   ·exact ⟨t,mem_cons_self,h.2.1⟩
   ·obtain ⟨u,a,b⟩:=k1 g hg;exact ⟨u,mem_cons_of_mem _ a,b⟩
  ·rcases List.mem_cons.1 hu with rfl | hu
   ·exact ⟨f,mem_cons_self,h.2.1⟩
   ·obtain ⟨g,a,b⟩:=k2 u hu;exact ⟨g,mem_cons_of_mem _ a,b⟩
 | [],_,t::l,h=>by cases h
 | f::r,_,[],h=>by cases h
theorem fL.JI {p:Src} {l:List T} (h:fL p l):∃ ls,Forms l ls:=by
 refine EL l fun t ht=>?_
 obtain ⟨f,_,h1⟩:=(fw.mem h.fns).2 t ht;exact toB h1.all h1.kind
theorem fL.at_ {p:Src} {l:List T} (h:fL p l):lX l:=by
 have:∀ l:List T,(∀ t∈l,c6 t=true)->lX l:=by
  intro l
  induction l with
  | nil=>intro _;trivial
  | cons t l ih=>intro h;rw [lX];exact ⟨Lv t (h t mem_cons_self),ih fun u hu=>h u (mem_cons_of_mem _ hu)⟩
 refine this l fun t ht=>?_
 obtain ⟨f,_,h1⟩:=(fw.mem h.fns).2 t ht;exact h1.all
theorem fL.Eo {p:Src} {l:List T} (h:fL p l):jj p.nodes p.fns 0 []=some (l,p.nodes.length):=by
 rw [HF p.fns 0 [] l h.st h.fns h.at_,h.len];simp
theorem fL.k {p:Src} {l:List T} (h:fL p l):l.all fP=true:=by
 rw [all_eq_true];intro t ht;obtain ⟨f,_,h1⟩:=(fw.mem h.fns).2 t ht;exact QG t h1.all
theorem Mj {l:List T} {ls:List (List S)} (h:Forms l ls):aP l=ls.map bG:=by
 rw [sd];apply List.ext_getElem?;intro i;rw [getElem?_map,getElem?_map];have hl:=h.len
 cases h1:l[i]? with
 | none =>
  rw [List.getElem?_eq_none_iff] at h1;rw [List.getElem?_eq_none_iff.2 aq];rfl
 | some t =>
  have hi:=(List.getElem?_eq_some_iff.1 h1).1
  have h2:ls[i]?=some (ls[i]'aq):=by simp [hl,hi]
  rw [h2];exact congrArg some (h.at_ i t _ h1 h2).2
theorem zip_fst {α β:Type}:∀ (a:List α) (b:List β),a.length=b.length->(a.zip b).map Prod.fst=a
 | [],[],_=>rfl
 | x::a,y::b,h=>by rw [zip_cons_cons,List.map_cons,zip_fst a b (by simpa using h)]
 | [],y::b,h=>by simp at h
 | x::a,[],h=>by simp at h
theorem CG {α β:Type}:∀ (a:List α) (b:List β),a.length=b.length->(a.zip b).map Prod.snd=b
 | [],[],_=>rfl
 | x::a,y::b,h=>by rw [zip_cons_cons,List.map_cons,CG a b (by simpa using h)]
 | [],y::b,h=>by simp at h
 | x::a,[],h=>by simp at h
theorem yb (l:List T) (i:Nat):aB (l.take i)=aB ((aP l).take i):=by
 rw [sd,<-List.map_take,<-sd,vB]
theorem VD {p:Src} {l:List T} {l':List T} {ls:List (List S)} (h:fL p l) (he:aP l'=aP l):same p ⟨l',p.globals,p.arrays,p.fns.map fun x=>(x.name,x.params)⟩=true:=by
 unfold same;simp only [Bool.and_eq_true];refine ⟨qt (fun x=>by simp) _,qt (fun x=>by simp [y7]) _,?_,?_⟩
 ·have:oQ ⟨l',p.globals,p.arrays,p.fns.map fun x=>(x.name,x.params)⟩=p.fns:=by
   unfold oQ;apply List.ext_getElem?;intro i;simp only [List.getElem?_mapIdx,getElem?_map]
   cases hf:p.fns[i]? with
   | none=>rfl
   | some f =>
    have hlen:=fw.len h.fns;have hi:=(List.getElem?_eq_some_iff.1 hf).1
    have ht:l[i]?=some (l[i]'aq):=by simp [<-hlen,hi]
    have hb:=(fw.at_ h.fns i f _ hf ht).1;rw [Nat.zero_add,yb,<-he,<-yb] at hb;simp only [Option.map_some];rw [<-hb]
  rw [this];refine qt (fun x=>?_) _;simp [qU,qt]
 ·rw [dy.all h.st h.len];exact B1 _ _ 0 he.symm
theorem Vb {p:Src} {l:List T} {ls:List (List S)} (h:fL p l) (hf:Forms l ls):mU cP fu p l=de f2 (de a1 (de g1 [] p.globals) p.arrays) (p.fns.zip ls):=by
 unfold mU
 refine LJ _ _ _ _ hf.len fun i t b h1 h2=>?_
 obtain ⟨h3,h4⟩:=hf.at_ i t b h1 h2;rw [<-LB,h4];exact uO b h3 0
theorem KN {p:Src} {l:List T} {ls:List (List S)} (h:fL p l) (hf:Forms l ls) {ts:List Tok} {c z:Int} {q:RS} {st:PS} (hr:Reads (mU cP fu p l) ts c z q st) :
  c=0/\((ls.all fun b=>eu b 1)=true->q.code=0/\aB st.trees<=800/\same p st=true)/\((ls.all fun b=>eu b 1)=false->q.code≠0):=by
 have hx:=Vb h hf;have hlen:=fw.len h.fns;have pL:=hf.len
 have nC:∀ x∈p.fns.zip ls,V0 x:=by
  intro x hx;obtain ⟨f,b⟩:=x;obtain ⟨i,hi⟩:=List.getElem?_of_mem hx;rw [List.getElem?_zip_eq_some] at hi;have rM:=(List.getElem?_eq_some_iff.1 hi.2).1
  have ht:l[i]?=some (l[i]'aq):=by simp [<-pL,rM]
  have h1:=(fw.at_ h.fns i f _ hi.1 ht).2;exact ⟨h1.name,h1.params,(hf.at_ i _ b ht hi.2).1⟩
 obtain ⟨us,h1,h2⟩:=NJ p.globals p.arrays (p.fns.zip ls) h.globals h.arrays nC;rw [<-hx] at h1;have h3:=SK h1 rfl ((mU cP fu p l).length+1) [] aq;rw [nil_append,hr.lex] at h3;simp only [Option.some.injEq,Prod.mk.injEq] at h3;obtain ⟨rfl,rfl,rfl⟩:=h3
 have Zp:sy ts:=by
  obtain ⟨iI,c',z',k1,k2,k3,k4⟩:=rp (mU cP fu p l) ((mU cP fu p l).length+1) 0 [] (Nat.zero_le _) aq (fun t h=>by simp at h) .nil (fun t h=>by simp at h) (Nat.le_refl _);rw [hr.lex] at k1;cases k1;exact k3
 obtain ⟨h4,h5⟩:=h2 Zp ((mU cP fu p l).length:Int) (ts.length+1) (40 * ts.length+100) (Nat.le_refl _) (Nat.le_refl _)
 have aM:((p.fns.zip ls).all fun x=>eu x.2 1)=ls.all fun b=>eu b 1:=by
  have:ls=(p.fns.zip ls).map Prod.snd:=(CG _ _ aq).symm
  conv=>rhs;rw [this]
  rw [List.all_map];rfl
 rw [aM] at h4 h5;refine ⟨rfl,fun uA=>?_,fun uA=>?_⟩
 ·obtain ⟨q',l',k1,k2,k3⟩:=h4 uA;rw [hr.read] at k1;simp only [Option.some.injEq,Prod.mk.injEq] at k1;obtain ⟨rfl,rfl⟩:=k1
  have e1:((p.fns.zip ls).map fun x=>bG x.2)=ls.map bG:=by
   have:ls=(p.fns.zip ls).map Prod.snd:=(CG _ _ aq).symm
   conv=>rhs;rw [this]
   rw [map_map];rfl
  have e2:((p.fns.zip ls).map fun x=>(x.1.name,x.1.params))=p.fns.map fun x=>(x.name,x.params):=by
   have:p.fns=(p.fns.zip ls).map Prod.fst:=(zip_fst _ _ aq).symm
   conv=>rhs;rw [this]
   rw [map_map];rfl
  have he:aP l'=aP l:=by rw [k3,e1,Mj hf]
  refine ⟨k2,?_,?_⟩
  ·simp only;rw [<-vB,he,vB,h.len];exact h.few
  ·rw [e2];exact VD (ls:=ls) h he
 ·obtain ⟨q',dT,k1,k2⟩:=h5 uA;rw [hr.read] at k1;simp only [Option.some.injEq,Prod.mk.injEq] at k1;obtain ⟨rfl,rfl⟩:=k1;exact k2
theorem HQ {α:Type} {p:α->α->Bool} {a b:List α} (h:fc p a b=true) {x:α} (hx:x∈a):∃ y∈b,p x y=true:=by
 obtain ⟨i,hi⟩:=List.getElem?_of_mem hx;have hl:=yr h;have ao:=(List.getElem?_eq_some_iff.1 hi).1
 have hb:b[i]?=some (b[i]'aq):=by simp [<-hl,ao]
 exact ⟨_,mem_of_getElem? hb,EA hi hb h⟩
theorem KB {p:Src} {l:List T} (hn:p.nodes.length<=800) (hb:jj p.nodes p.fns 0 []=some (l,p.nodes.length)) {st:PS} (eH:BG st) (hs:same p st=true):fL p l:=by
 obtain ⟨l',h1,h2,h3,h4,h5⟩:=BP _ _ _ _ _ hb;rw [nil_append] at h1;subst h1;unfold same at hs;simp only [Bool.and_eq_true] at hs;obtain ⟨s1,s2,s3,s4⟩:=hs
 have hz:aB l=p.nodes.length:=by omega
 have UH:=dy.all h2 hz;rw [UH] at s4
 have hlen:l.length=st.trees.length:=by
  have a1:=fw.len h3;have a2:=yr s3;unfold oQ at a2;rw [List.length_mapIdx] at a2;have:=eH.len;omega
 have he:=S8 hlen s4
 have iL:∀ f∈p.fns,bs f.name=true/\cw f.params=true:=by
  intro f hf;obtain ⟨g,hg,hp⟩:=HQ s3 hf;unfold oQ at hg;obtain ⟨i,hi⟩:=List.getElem?_of_mem hg;rw [List.getElem?_mapIdx] at hi
  cases hx:st.fns[i]? with
  | none=>rw [hx] at hi;cases hi
  | some x =>
   rw [hx] at hi;cases hi;simp only [qU,Bool.and_eq_true,beq_iff_eq] at hp;obtain ⟨⟨k1,k2⟩,_⟩:=hp;obtain ⟨k3,k4⟩:=eH.fns x (mem_of_getElem? hx);rw [k1,yo k2];exact ⟨k3,k4⟩
 have XS:∀ t∈l,t.n.kind=14/\c6 t=true:=by
  intro t ht
  have h6:er t∈aP l:=by rw [sd];exact List.mem_map_of_mem ht
  rw [he,sd] at h6;obtain ⟨u,hu,h7⟩:=List.mem_map.1 h6;obtain ⟨b,k1,k2⟩:=eH.trees u hu;rw [h7] at k2
  have wT:xg t:=by
   have:∀ l:List T,lX l->t∈l->xg t:=by
    intro l
    induction l with
    | nil=>intro _ h;cases h
    | cons v l ih =>
     intro h hm;rw [lX] at h
     rcases List.mem_cons.1 hm with rfl | hm
     ·exact h.1
     ·exact ih h.2 hm
   exact this l h5 ht
  refine ⟨?_,Lw t (by rw [k2];exact S.uP b k1) wT⟩;have:=congrArg (fun x=>x.n.kind) k2;simp only [xm] at this;exact this
 refine ⟨?_,?_,h2,fw.mono h3 fun f t hf ht _=>⟨(iL f hf).1,(iL f hf).2,(XS t ht).1,(XS t ht).2⟩,hz,hn⟩
 ·rw [yo s1];exact eH.globals
 ·rw [all_eq_true];intro a ha;obtain ⟨b,hb,hp⟩:=HQ s2 ha;have h6:=List.all_eq_true.1 eH.arrays b hb;simp only [y7,Bool.and_eq_true,beq_iff_eq] at hp;unfold og at h6 |-;rw [hp.1,hp.2];exact h6
def bf {α:Type} (f:α->Nat):List α->Nat
 | []=>0
 | x::l=>f x+bf f l
theorem Al {α:Type} (f:α->Nat) (a b:List α):bf f (a++b)=bf f a+bf f b:=by
 induction a with
 | nil=>simp [bf]
 | cons x a ih=>simp only [cons_append,bf,ih];omega
theorem Te {α:Type} {f g:α->Nat} {l:List α} (h:∀ x∈l,f x<=g x):bf f l<=bf g l:=by
 induction l with
 | nil=>exact Nat.le_refl _
 | cons x l ih =>
  have h1:=h x mem_cons_self
  have h2:=ih fun y hy=>h y (mem_cons_of_mem _ hy)
  simp only [bf];omega
theorem nI {α:Type} {f:α->Nat} {l:List α} {x:α} (h:x∈l):f x<=bf f l:=by
 induction l with
 | nil=>cases h
 | cons y l ih =>
  rw [bf]
  rcases List.mem_cons.1 h with rfl | h
  ·omega
  ·have:=ih h;omega
theorem nH {α:Type} {f g:α->Nat} {k:Nat} {l:List α} (h:∀ x∈l,f x<=k * g x):bf f l<=k * bf g l:=by
 induction l with
 | nil=>exact Nat.zero_le _
 | cons x l ih =>
  have h1:=h x mem_cons_self
  have h2:=ih fun y hy=>h y (mem_cons_of_mem _ hy)
  simp only [bf,Nat.mul_add];omega
theorem tB {α:Type} (f:α->Nat) (l:List α) (h:∀ x∈l,1<=f x):l.length<=bf f l:=by
 induction l with
 | nil=>exact Nat.zero_le _
 | cons x l ih =>
  have h1:=h x mem_cons_self
  have h2:=ih fun y hy=>h y (mem_cons_of_mem _ hy)
  rw [bf,length_cons];omega
theorem Gl {α β:Type} (f:α->Nat) (g:β->Nat):∀ (a:List α) (b:List β),bf (fun x:α × β=>f x.1+g x.2) (a.zip b)<=bf f a+bf g b
 | [],b=>by simp [bf]
 | x::a,[]=>by simp [bf]
 | x::a,y::b=>by
  have:=Gl f g a b;simp only [zip_cons_cons,bf] at *;omega
theorem vP {α:Type} (f:α->ai):∀ (l:List α) (acc:ai),(de f acc l).length=acc.length+bf (fun x=>(f x).length) l
 | [],acc=>by simp [de,bf]
 | x::l,acc=>by rw [de,vP f l,length_append,bf];omega
def r6 (n:Nd):Nat:=n.s.length+60
mutual
theorem VZ:∀ (t:T) (a:Nat),jH t=bf r6 (lP a t)
 | .mk n l,a=>by rw [jH,lP,bf,yR l (a+1),r6]
theorem yR:∀ (l:List T) (a:Nat),fO l=bf r6 (eg a l)
 | [],a=>rfl
 | t::r,a=>by rw [fO,eg,Al,VZ t a,yR r (a+aR t)]
end
def wi (l:List T) (i:Nat):Nat:=match l[i]? with | some t=>jH t | none=>0
theorem ZN (l:List T):wi l 0+wi l 1+wi l 2<=fO l:=by
 match l with
 | []=>simp [wi]
 | [a]=>simp only [wi,fO];simp
 | [a,b]=>simp only [wi,fO];simp
 | a::b::c::r=>simp only [wi,fO];simp;omega
theorem H4 {l:List T} {f:T->ai} (h:∀ t∈l,(f t).length<=jH t) (i:Nat):((l.map f).getD i []).length<=wi l i:=by
 rw [List.getD_eq_getElem?_getD,getElem?_map];unfold wi
 cases hi:l[i]? with
 | none=>simp
 | some t=>exact h t (mem_of_getElem? hi)
theorem I7 {l:List T} {t:T} (h:t∈l):aR t<=aB l:=by
 induction l with
 | nil=>cases h
 | cons a l ih =>
  rw [aB]
  rcases List.mem_cons.1 h with rfl | h
  ·omega
  ·have:=ih h;omega
theorem I5 {f:T->ai}:∀ {l:List T},(∀ t∈l,(f t).length+4<=jH t)->kp (l.map f)<=fO l
 | [],_=>Nat.zero_le _
 | t::l,h=>by
  have h1:=h t mem_cons_self
  have h2:=I5 (l:=l) fun y hy=>h y (mem_cons_of_mem _ hy)
  rw [List.map_cons,kp,fO];omega
theorem VJ:∀ (N:Nat) (t:T),aR t<=N->oY t->∀ d,(j0 cP fu d t).length+4<=jH t/\(mZ cP fu d t).length<=jH t:=by
 intro N
 induction N with
 | zero=>intro t h;have:=kv t;omega
 | succ N ih =>
  intro t hN hn d;have cR:=ej t;rw [qD] at hn
  have hk:∀ a∈t.kids,∀ d,(j0 cP fu d a).length+4<=jH a/\(mZ cP fu d a).length<=jH a:=fun a ha d=>ih a (by have:=I7 ha;omega) (jG hn.2 ha) d
  have hx:=H4 (l:=t.kids) (f:=cP) (fun a ha=>by have:=vD (aR a) a (Nat.le_refl _) (jG hn.2 ha);omega);have hb:=H4 (l:=t.kids) (f:=mZ cP fu d) (fun a ha=>(hk a ha d).2);have h3:=ZN t.kids;have hw:=oP t;have fa:=vD (aR t) t (Nat.le_refl _) ((qD t).2 hn);have x0:=hx 0;have x1:=hx 1;have b1:=hb 1;have b2:=hb 2;constructor
  ·rw [NX,HE];unfold xa;split
   ·simp only [length_append,length_cons,length_nil];omega
   split
   ·simp only [length_append,length_cons,length_nil];omega
   split
   ·simp only [length_append,length_cons,length_nil];omega
   split
   ·split
    ·simp only [length_append,length_cons,length_nil];omega
    ·simp only [length_append,length_cons,length_nil];omega
   split
   ·simp only [length_append,length_cons,length_nil];omega
   split
   ·simp only [length_append,length_cons,length_nil];omega
   split
   ·simp only [length_append,length_cons,length_nil];omega
   ·omega
  ·rw [LA,I3]
   have:=I5 (f:=j0 cP fu (d+1)) (l:=t.kids) fun a ha=>(hk a ha (d+1)).1
   have e:∀ l:List ai,(fu l d).length=3+kp l:=fun l=>by
    unfold fu;rw [length_append,sF];simp only [length_cons,length_nil];omega
   rw [e];omega
def wS (l:List ai):Nat:=bf (fun s=>s.length+1) l
def dB (p:Src):Nat:=wS p.globals+bf (fun a:Ar=>a.name.length+1) p.arrays+bf (fun f:Fn=>f.name.length+wS f.params+1) p.fns+bf (fun n:Nd=>n.s.length+n.kids.length+1) p.nodes
structure xe (p:Src):Prop where
 arrays:∀ a∈p.arrays,-9223372036854775808<=a.size/\a.size<=9223372036854775807
 nodes:∀ n∈p.nodes,-9223372036854775808<=n.n/\n.n<=9223372036854775807
mutual
theorem et.num {nodes:List Nd} (h:∀ n∈nodes,-9223372036854775808<=n.n/\n.n<=9223372036854775807):∀ (t:T) (a:Nat),et nodes a t->oY t
 | .mk n l,a,hs=>by
  rw [et] at hs;rw [oY];exact ⟨h n (mem_of_getElem? hs.1),dy.num h l _ hs.2.2⟩
theorem dy.num {nodes:List Nd} (h:∀ n∈nodes,-9223372036854775808<=n.n/\n.n<=9223372036854775807):∀ (l:List T) (a:Nat),dy nodes a l->pS l
 | [],a,_=>trivial
 | t::r,a,hs=>by
  rw [dy] at hs;rw [pS];exact ⟨et.num h t a hs.1,dy.num h r _ hs.2⟩
end
theorem Qi (l:List ai):(l.map fun y=>y.length+2).sum=bf (fun s=>s.length+2) l:=by
 induction l with
 | nil=>rfl
 | cons s l ih=>rw [List.map_cons,sum_cons,ih,bf]
theorem Gy (l:List T):fO l=bf jH l:=by
 induction l with
 | nil=>rfl
 | cons t l ih=>rw [fO,bf,ih]
theorem SC {p:Src} {l:List T} (hn:xe p) (hs:dy p.nodes 0 l) (hz:aB l=p.nodes.length):(mU cP fu p l).length<=100 * dB p:=by
 have il:=dy.num hn.nodes l 0 hs
 have e1:bf (fun s=>(g1 s).length) p.globals<=100 * wS p.globals:=nH fun s _=>by simp only [g1,length_append,length_cons,length_nil];omega
 have e2:bf (fun a=>(a1 a).length) p.arrays<=100 * bf (fun a:Ar=>a.name.length+1) p.arrays:=nH fun a ha=>by
  have:=xQ (hn.arrays a ha);simp only [a1,length_append,length_cons,length_nil];omega
 have e3:bf (fun x=>(f1 cP fu x).length) (p.fns.zip l)<=bf (fun x:Fn × T=>(fun f:Fn=>100 * (f.name.length+wS f.params+1)) x.1+jH x.2) (p.fns.zip l):=Te fun x hx=>by
  have h1:=(VJ (aR x.2) x.2 (Nat.le_refl _) (jG il (List.of_mem_zip hx).2) 0).2;have h2:=z6 x.1.params;rw [Qi] at h2
  have h3:bf (fun s=>s.length+2) x.1.params<=2 * wS x.1.params:=nH fun s _=>by omega
  simp only [f1,length_append,length_cons,length_nil];omega
 have e4:=Gl (fun f:Fn=>100 * (f.name.length+wS f.params+1)) jH p.fns l
 have e5:bf (fun f:Fn=>100 * (f.name.length+wS f.params+1)) p.fns<=100 * bf (fun f:Fn=>f.name.length+wS f.params+1) p.fns:=nH fun f _=>Nat.le_refl _
 have e6:bf r6 p.nodes<=100 * bf (fun n:Nd=>n.s.length+n.kids.length+1) p.nodes:=nH fun n _=>by unfold r6;omega
 have e7:bf jH l=bf r6 p.nodes:=by rw [<-Gy,yR l 0,<-dy.all hs hz]
 unfold mU dB;rw [vP,vP,vP];simp only [length_nil];have e8:=Nat.le_trans e3 e4;generalize bf (fun x=>(f1 cP fu x).length) (p.fns.zip l)=v3 at *;generalize bf (fun s=>(g1 s).length) p.globals=v1 at *;generalize bf (fun a=>(a1 a).length) p.arrays=v2 at *;omega
theorem Gs {p:Src} {l:List T} (hs:dy p.nodes 0 l) (hz:aB l=p.nodes.length):∀ t∈l,jH t<=100 * dB p/\aR t<=dB p:=fun t ht=>by
 have e6:bf r6 p.nodes<=100 * bf (fun n:Nd=>n.s.length+n.kids.length+1) p.nodes:=nH fun n _=>by unfold r6;omega
 have e7:bf jH l=bf r6 p.nodes:=by rw [<-Gy,yR l 0,<-dy.all hs hz]
 have e8:=nI (f:=jH) ht;have e9:=I7 ht
 have Xq:=tB (fun n:Nd=>n.s.length+n.kids.length+1) p.nodes fun n _=>by omega
 unfold dB;omega
theorem Gt (l:List ai):l.length<=wS l:=tB _ l fun s _=>by omega
theorem Oe {l:List ai} {s:ai} (h:s∈l):s.length+1<=wS l:=nI (f:=fun s:ai=>s.length+1) h
structure Small (p:Src) (n:Nat):Prop where
 globals:p.globals.length<=n/\∀ s∈p.globals,s.length<=n
 arrays:p.arrays.length<=n/\∀ a∈p.arrays,a.name.length<=n
 fns:p.fns.length<=n/\∀ f∈p.fns,f.name.length<=n/\f.params.length<=n/\∀ s∈f.params,s.length<=n
 nodes:p.nodes.length<=n/\∀ x∈p.nodes,x.s.length<=n/\x.kids.length<=n
theorem fg (p:Src):Small p (dB p):=by
 have a1:=Gt p.globals
 have a2:=tB (fun a:Ar=>a.name.length+1) p.arrays fun a _=>by omega
 have a3:=tB (fun f:Fn=>f.name.length+wS f.params+1) p.fns fun a _=>by omega
 have a4:=tB (fun n:Nd=>n.s.length+n.kids.length+1) p.nodes fun a _=>by omega
 unfold dB;refine ⟨⟨by omega,fun s hs=>?_⟩,⟨by omega,fun a ha=>?_⟩,⟨by omega,fun f hf=>?_⟩,⟨by omega,fun n hn=>?_⟩⟩
 ·have:=Oe hs;omega
 ·have:=nI (f:=fun a:Ar=>a.name.length+1) ha;omega
 ·have:=nI (f:=fun f:Fn=>f.name.length+wS f.params+1) hf;refine ⟨by omega,by have:=Gt f.params;omega,fun s hs=>by have:=Oe hs;omega⟩
 ·have:=nI (f:=fun n:Nd=>n.s.length+n.kids.length+1) hn;exact ⟨by omega,by omega⟩
structure zB (st:PS) (n:Nat):Prop where
 globals:st.globals.length<=n
 arrays:st.arrays.length<=n
 fns:st.fns.length<=n
 params:∀ x∈st.fns,x.2.length<=n
theorem M1:∀ (f:Nat) (acc:List ai) (p:RS) (l:List ai) (q:RS),oK f acc p=some (l,q)->l.length<=acc.length+f
 | 0,_,_,_,_,h=>by cases h
 | f+1,acc,p,l,q,h=>by
  rw [oK] at h;split at h
  ·have:=M1 f _ _ l q h;rw [length_append,length_cons,length_nil] at this;omega
  ·cases h;omega
theorem zB.up {st:PS} {n:Nat} (h:zB st n):zB st (n+1):=by
 obtain ⟨a,b,c,d⟩:=h;exact ⟨by omega,by omega,by omega,fun x hx=>by have:=d x hx;omega⟩
theorem WD {f n:Nat} {p q:RS} {st dT:PS} (hf:f<=n) (h:iW f p st=some (q,dT)) (hs:zB st n):zB dT (n+1):=by
 have key:=hs.up;obtain ⟨a,b,c,d⟩:=hs;unfold iW at h;split at h
 ·split at h
  ·split at h
   ·cases h;exact ⟨by simp;omega,by simp;omega,by simp;omega,fun x hx=>by have:=d x hx;omega⟩
   ·cases h;exact key
  ·cases h;exact ⟨by simp;omega,by simp;omega,by simp;omega,fun x hx=>by have:=d x hx;omega⟩
 ·split at h
  ·cases hm:oK f [] (want (br p.next) [40]) with
   | none=>rw [hm] at h;cases h
   | some r =>
    obtain ⟨l,q1⟩:=r;rw [hm] at h;simp only at h;have hl:=M1 _ _ _ _ _ hm;split at h
    ·split at h
     ·cases h
     ·cases h;refine ⟨by simp;omega,by simp;omega,by simp;omega,fun x hx=>?_⟩
      rcases List.mem_append.1 hx with hx | hx
      ·have:=d x hx;omega
      ·rw [mem_singleton] at hx;subst hx;simp at hl |-;omega
    ·cases h;exact key
  ·cases h;exact key
theorem M3 {f:Nat}:∀ (G n:Nat) (p q:RS) (st dT:PS),f<=n->ni G f p st=some (q,dT)->zB st n->zB dT (n+G)
 | 0,n,p,q,st,dT,_,h,_=>by cases h
 | G+1,n,p,q,st,dT,hf,h,hs=>by
  rw [ni] at h;split at h
  ·cases hw:iW f p st with
   | none=>rw [hw] at h;cases h
   | some r =>
    obtain ⟨q1,s1⟩:=r;rw [hw] at h;simp only at h;have:=M3 G (n+1) q1 q s1 dT aq h (WD hf hw hs);rw [show n+(G+1)=n+1+G by omega];exact this
  ·cases h;obtain ⟨a,b,c,d⟩:=hs;exact ⟨by omega,by omega,by omega,fun x hx=>by have:=d x hx;omega⟩
mutual
theorem O0:∀ (t:T) (a:Nat),∀ n∈lP a t,n.kids.length<=aR t
 | .mk m l,a,n,h=>by
  rw [lP] at h;rw [aR]
  rcases List.mem_cons.1 h with rfl | h
  ·simp only [dY];have:=bR l;omega
  ·have:=zH l (a+1) n h;omega
theorem zH:∀ (l:List T) (a:Nat),∀ n∈eg a l,n.kids.length<=aB l
 | [],a,n,h=>by rw [eg] at h;cases h
 | t::r,a,n,h=>by
  rw [eg] at h;rw [aB]
  rcases List.mem_append.1 h with h | h
  ·have:=O0 t a n h;omega
  ·have:=zH r _ n h;omega
end
end Go.Im
namespace Go.Sp
open Go.Xp
structure D6 (p:Src) (ls:List (List S)):Prop where
 len:ls.length=p.fns.length
 at_:∀ (i:Nat) f l,p.fns[i]?=some f->ls[i]?=some l->0<=f.body/\S.cM l=true/\wt (bG l)<=1000000000/\∃ t,sub p.nodes (fN p.nodes) f.body.toNat=some t/\er t=bG l
theorem SU (a:E) (ho:a.ok=true):(a.txt).length+4<=wt a.tree:=(E.len a ho).1
theorem RY {l:List S} (ho:S.cM l=true) (hw:wt (bG l)<=1000000000) :
  ∃ ts t q f,Go.Sp.iz (eU E.txt l)=some ts/\(eU E.txt l).length<=1000000000/\ts.length<=1000000000/\1+f<=1099511627776/\mS f (.block 1) ⟨ts,0,(eU E.txt l).length,0,0⟩=some (t,q)/\q.l=ts/\((q.code=0/\q.i=ts.length/\eu l 1=true)\/(q.code≠0/\eu l 1=false)):=by
 have hlen:=r8 E.txt SU ho;generalize hx:eU E.txt l=x at *;obtain ⟨ts,h1,h2⟩:=(ID ho).all;rw [hx] at h2;have h3:=h2.len;have Db:On ⟨ts,0,x.length,0,0⟩ ts:=⟨rfl,Nat.zero_le _,rfl,h2.kinds⟩;have bJ:rs (x.length:Int) (mn ts) (.block 1) ts≠.error aX:=vL;obtain ⟨t,q,h4,h5⟩:=(js (mn ts)).block 1 ts _ Db bJ;have UQ:=En (e:=(x.length:Int)) (d:=1) (rest:=[]) ho h1;rw [append_nil] at UQ
 change iQ _ q t (block (x.length:Int) 1 ts) at h5
 refine ⟨ts,t,q,KF (mn ts),h2.all,by omega,by omega,by unfold KF mn;omega,h4 _ (Nat.le_refl _),?_⟩
 cases hf:eu l 1 with
 | true =>
  obtain ⟨t',_,h6⟩:=UQ.1 hf;rw [h6] at h5;obtain ⟨_,h7,h8,_⟩:=h5;have h8:q.l=ts:=h8;refine ⟨h8,.inl ⟨h7.code,?_,rfl⟩⟩;have hr:=congrArg List.length h7.rest;have hle:=h7.le;rw [length_drop] at hr;rw [h8] at hr hle;simp only [length_nil] at hr;omega
 | false =>
  obtain ⟨pos,h6⟩:=UQ.2 hf;rw [h6] at h5;exact ⟨h5.2.2.2.1,.inr ⟨bF.err h5,rfl⟩⟩
end Go.Sp
namespace Go.Im
open Go.Xp Go.Sp
def KA (p:Src) (x:ai):Bool:=match mV x (x.length+1) 0 [] with
 | none=>false
 | some (ts,c,z)=>if c≠0 then false else match ni (ts.length+1) (40 * ts.length+100) ⟨ts,0,(x.length:Int),0,0⟩ .empty with
  | none=>false
  | some (q,st)=>if q.code≠0 then false else if aB st.trees > 800 then false else same p st
def fI (p:Src):Bool:=if p.nodes.length > 800 then false else match jj p.nodes p.fns 0 [] with
 | none=>false
 | some (l,e)=>if e≠p.nodes.length then false else if l.all fP=false then false else KA p (mU cP fu p l)
theorem Ae {p:Src} {x:ai} {ts:List Tok} {c z:Int} {q:RS} {st:PS} (h:Reads x ts c z q st):KA p x=if c≠0 then false else if q.code≠0 then false else if aB st.trees > 800 then false else same p st:=by
 unfold KA;rw [h.lex];simp only;rw [h.read]
theorem Yp {p:Src} {l:List T} {ls:List (List S)} (h:fL p l) (hf:Forms l ls):fI p=ls.all fun b=>eu b 1:=by
 unfold fI;have h8:=h.few;rw [if_neg aq,h.Eo];simp only;rw [if_neg (by simp),if_neg (by rw [h.k];decide)];obtain ⟨ts,c,z,q,st,hr⟩:=reads (mU cP fu p l);obtain ⟨h1,h2,h3⟩:=KN h hf hr;rw [Ae hr,if_neg (by simpa using h1)]
 cases hb:ls.all fun b=>eu b 1 with
 | false=>rw [if_pos (h3 hb)]
 | true =>
  obtain ⟨k1,k2,k3⟩:=h2 hb;rw [if_neg (by simpa using k1),if_neg aq,k3]
theorem tQ {p:Src} (h:fI p=true):∃ l,fL p l:=by
 unfold fI at h
 by_cases h8:p.nodes.length > 800
 ·rw [if_pos h8] at h;cases h
 rw [if_neg h8] at h
 cases hb:jj p.nodes p.fns 0 [] with
 | none=>rw [hb] at h;cases h
 | some y =>
  obtain ⟨l,e⟩:=y;rw [hb] at h;simp only at h
  by_cases he:e=p.nodes.length
  ·subst he;rw [if_neg (by simp)] at h
   by_cases hk:l.all fP=false
   ·rw [if_pos hk] at h;cases h
   rw [if_neg hk] at h;obtain ⟨ts,c,z,q,st,hr⟩:=reads (mU cP fu p l);rw [Ae hr] at h;split at h
   ·cases h
   split at h
   ·cases h
   ·rename_i hc;split at h
    ·cases h
    ·exact ⟨l,KB aq hb (hr.ok (by simpa using hc)).1 h⟩
  ·rw [if_pos he] at h;cases h
theorem Yo {p:Src} (h:nW p=some false):fI p=false:=by
 cases hf:fI p with
 | false=>rfl
 | true =>
  obtain ⟨l,h1⟩:=tQ hf;rw [h1.nW] at h;cases h
theorem dy.ix {nodes:List Nd}:∀ (l:List T) (a i:Nat) (t:T),dy nodes a l->l[i]?=some t->et nodes (a+aB (l.take i)) t
 | [],a,i,t,_,h=>by simp at h
 | u::r,a,0,t,h,hi=>by
  cases hi;rw [dy] at h;exact h.1
 | u::r,a,i+1,t,h,hi=>by
  rw [dy] at h;have:=dy.ix r (a+aR u) i t h.2 (by simpa using hi);rw [take_succ_cons,aB,<-Nat.add_assoc];exact this
mutual
theorem OB:∀ t:T,wt t<=jH t
 | .mk n l=>by have:=Gz l;rw [wt,jH];omega
theorem Gz:∀ l:List T,eI l<=fO l
 | []=>Nat.le_refl _
 | t::r=>by have:=OB t;have:=Gz r;rw [eI,fO];omega
end
theorem LC {p:Src} {l:List T} {ls:List (List S)} (h:fL p l) (hf:Forms l ls) (hw:dB p<=1048576):D6 p ls:=by
 have hl:=fw.len h.fns;refine ⟨by rw [hf.len];omega,fun i f b h1 h2=>?_⟩;have hi:=(List.getElem?_eq_some_iff.1 h2).1;have hlen:=hf.len
 have ht:l[i]?=some (l[i]'aq):=by simp [<-hlen,hi]
 obtain ⟨h3,h4⟩:=hf.at_ i _ b ht h2;obtain ⟨h5,h6⟩:=fw.at_ h.fns i f _ h1 ht;have h7:=dy.ix l 0 i _ h.st ht;rw [Nat.zero_add] at h5 h7;have hm:=mem_of_getElem? ht;have h8:=Gs h.st h.len _ hm;have h9:=OB (l[i]'aq);have lj:=et.le _ _ h7;refine ⟨by omega,h3,by rw [<-h4,RP];omega,_,?_,h4⟩;rw [h5,Int.toNat_natCast];exact (vA _).1 _ _ h7 (by unfold fN;omega)
theorem nK {α:Type} (f:α->Nat) (l:List α) (k:Nat):bf f (l.take k)<=bf f l:=by
 have:bf f l=bf f (l.take k)+bf f (l.drop k):=by rw [<-Al,take_append_drop]
 omega
structure aaf (p:Src) (i:Nat) (u:T) (a:E):Prop where
 ok:a.ok=true
 er:er u=a.tree
 sub:sub p.nodes (fN p.nodes) i=some u
 tr:∃ e,od p.nodes (p.nodes.length - i+1) i=some (u,e)
 k:fP u=true
 num:oY u
 wt:jH u<=100 * dB p
 txt:cP u=a.txt
def rS (w left:Nat):Int:=if w<=left then ((left - w:Nat):Int) else -1
theorem gq {w left:Nat} (h:w<=left):rS w left=((left - w:Nat):Int):=by unfold rS;rw [if_pos h]
theorem dJ {w left:Nat} (h:left < w):rS w left = -1:=by unfold rS;rw [if_neg aq]
theorem nJ {α:Type} (w:α->Nat) (l:List α):bf (fun x=>w x+1) l=l.length+bf w l:=by
 induction l with
 | nil=>rfl
 | cons x l ih=>rw [bf,ih,bf,length_cons];omega
theorem kQ {α:Type} {w:α->Nat} {l:List α} {k:Nat} {x:α} (h:l[k]?=some x):bf w (l.take (k+1))=bf w (l.take k)+w x:=by
 have:l.take (k+1)=l.take k++[x]:=by rw [List.take_add_one,h];rfl
 rw [this,Al,bf,bf];rfl
theorem kZ {α β:Type} {f:α->β} {l:List α} {k:Nat} {x:α} {Z:β} (h:l[k]?=some x):((l.take k).map f++List.replicate (l.length - k) Z).set k (f x)=(l.take (k+1)).map f++List.replicate (l.length - (k+1)) Z:=by
 have hk:=(List.getElem?_eq_some_iff.1 h).1
 have ht:l.take (k+1)=l.take k++[x]:=by rw [List.take_add_one,h];rfl
 have hl:((l.take k).map f).length=k:=by rw [length_map,length_take];omega
 rw [show l.length - k=(l.length - (k+1))+1 by omega,List.replicate_succ,List.set_append_right _ _ aq,hl,Nat.sub_self,List.set_cons_zero,ht,List.map_append];simp
theorem kY {α β:Type} {f:α->β} {l:List α} {k:Nat} {Z:β} (h:k<=l.length):((l.take k).map f++List.replicate (l.length - k) Z).length=l.length:=by
 rw [length_append,length_map,length_take,List.length_replicate];omega
theorem kX {α β:Type} {f:α->β} {l:List α} {Z:β}:(l.take l.length).map f++List.replicate (l.length - l.length) Z=l.map f:=by
 rw [List.take_length,Nat.sub_self];simp
theorem CL {p:Src} {l:List T} (h:fL p l):∀ a∈p.arrays,0<=a.size/\a.size<=2147483647:=fun a ha=>by
 have:=List.all_eq_true.1 h.arrays a ha;unfold og at this;simp only [Bool.and_eq_true,Bool.not_eq_true',decide_eq_false_iff_not] at this;omega
end Go.Im
