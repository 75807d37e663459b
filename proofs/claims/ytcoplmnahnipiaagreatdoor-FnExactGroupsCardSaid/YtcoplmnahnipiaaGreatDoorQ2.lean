/- Part 2 of proofs that are told in their last texts. -/
import Derived.Test.YtcoplmnahnipiaaGreatDoorQ1
open List (all_cons all_eq_true any_eq_true append_assoc append_nil cons_append contains_iff_mem drop_left eq_nil_of_length_eq_zero find?_eq_none flatMap_cons foldl_cons getElem?_map getElem?_take length_append length_cons length_drop length_map length_nil length_take map_map mem_cons_of_mem mem_cons_self mem_of_getElem? mem_singleton nil_append sum_cons tail_cons take_append_drop take_succ_cons take_zero zip_cons_cons)
set_option linter.unusedVariables false
set_option linter.unusedSimpArgs false
set_option maxRecDepth 100000
namespace Go.Xp
open Go.Sp (bp eB)
section
variable {e:Int} {d:Nat} {ts rest:List Tok} {Q:T->Prop} {b:Bool}
theorem S.head {s:S} (ho:s.ok=true) (ht:ts.map kf=s.tk):∃ t r,ts=t::r/\∀ rest,sign (t::rest) 0≠eg/\sign (t::rest) 0≠[125]:=by
 cases s with
 | set s a =>
  rw [S.tk] at ht;obtain ⟨t,r,rfl,h1,_⟩:=map_cons ht;obtain ⟨h1,_⟩:=pW h1;exact ⟨t,r,rfl,fun rest=>⟨iw h1 au,iw h1 au⟩⟩
 | put s a b =>
  rw [S.tk] at ht;obtain ⟨t,r,rfl,h1,_⟩:=map_cons ht;obtain ⟨h1,_⟩:=pW h1;exact ⟨t,r,rfl,fun rest=>⟨iw h1 au,iw h1 au⟩⟩
 | if1 c b =>
  rw [S.tk] at ht;obtain ⟨t,r,rfl,h1,_⟩:=map_cons ht;exact ⟨t,r,rfl,fun rest=>by rw [sE h1];decide⟩
 | if2 c b b2 =>
  rw [S.tk] at ht;obtain ⟨t,r,rfl,h1,_⟩:=map_cons ht;exact ⟨t,r,rfl,fun rest=>by rw [sE h1];decide⟩
 | while_ c b =>
  rw [S.tk] at ht;obtain ⟨t,r,rfl,h1,_⟩:=map_cons ht;exact ⟨t,r,rfl,fun rest=>by rw [sE h1];decide⟩
 | ret a =>
  rw [S.tk] at ht;obtain ⟨t,r,rfl,h1,_⟩:=map_cons ht;exact ⟨t,r,rfl,fun rest=>by rw [sE h1];decide⟩
 | var s a =>
  rw [S.tk] at ht;obtain ⟨t,r,rfl,h1,_⟩:=map_cons ht;exact ⟨t,r,rfl,fun rest=>by rw [sE h1];decide⟩
 | do_ a =>
  simp only [S.ok] at ho;obtain ⟨k0,r0,hh,hf⟩:=E.head a ho;rw [S.tk,hh] at ht;obtain ⟨t,r,rfl,h1,_⟩:=map_cons ht;refine ⟨t,r,rfl,fun rest=>?_⟩
  rcases zR (r:=rest) (by rw [h1];exact hf) with h | h | h | h | h <;> (rw [h];decide)
def rb (l:List S):Prop:=∀ (e:Int) (d:Nat) (acc:List T) (ts rest:List Tok) (u:Tok),S.cP l=true->ts.map kf=S.mH l->u.kind=3->u.s=[125] ->
 (S.fits l d=true->∃ ys,aM ys=S.trees l/\Eb e d acc (ts++u::rest) (.ok (acc++ys,rest)))/\(S.fits l d=false->∃ pos,Eb e d acc (ts++u::rest) (.error (9,pos)))
theorem L8:rb []:=by
 intro e d acc ts rest u _ ht hu fy
 have:ts=[]:=by simpa [S.mH] using ht
 subst this;refine ⟨fun _=>⟨[],rfl,1,fun f hf=>?_⟩,fun h=>by simp [S.fits] at h⟩;obtain ⟨f,rfl⟩:∃ g,f=g+1:=⟨f - 1,by omega⟩;rw [rs.body,if_pos (by exact tB hu fy),append_nil];rfl
theorem JO {a:S} {l:List S} (Ca:re a) (Cl:rb l):rb (a::l):=by
 intro e d acc ts rest u ho ht hu fy;simp only [S.cP,Bool.and_eq_true] at ho;rw [S.mH] at ht;obtain ⟨A,B,rfl,h3,h4⟩:=dc ht;obtain ⟨t,r,rfl,hh⟩:=S.head ho.1 h3
 have bP:sign (B++u::rest) 0≠eg:=by
  cases l with
  | nil =>
   have:B=[]:=by simpa [S.mH] using h4
   subst this;rw [nil_append,tB hu fy];decide
  | cons a' l' =>
   simp only [S.cP,Bool.and_eq_true] at ho;rw [S.mH] at h4;obtain ⟨A',B',rfl,h5,h6⟩:=dc h4;obtain ⟨t',r',rfl,hh'⟩:=S.head ho.2.1 h5;exact (hh' _).1
 have hx:=Ca e d (t::r) (B++u::rest) ho.1 h3 bP
 have he:t::r++B++u::rest=t::r++(B++u::rest):=by simp
 have hs:sign (t::r++(B++u::rest)) 0≠[125]:=(hh _).2;rw [he,S.fits]
 cases hfa:a.fit d with
 | false =>
  refine ⟨fun hb=>(by simp at hb),fun _=>?_⟩;obtain ⟨pos,f0,h0⟩:=hx.2 hfa;refine ⟨pos,f0+1,fun f hf=>?_⟩;obtain ⟨f,rfl⟩:∃ g,f=g+1:=⟨f - 1,by omega⟩;rw [rs.body,if_neg hs,h0 f ao]
 | true =>
  obtain ⟨ta,k1,f0,h0⟩:=hx.1 hfa;have hl:=Cl e d (acc++[ta]) B rest u ho.2 h4 hu fy;refine ⟨fun hb=>?_,fun hb=>?_⟩
  ·obtain ⟨ys,k3,f1,k4⟩:=hl.1 (by simpa using hb);refine ⟨ta::ys,by rw [aM,k1,k3,S.trees],f0+f1+1,fun f hf=>?_⟩;obtain ⟨f,rfl⟩:∃ g,f=g+1:=⟨f - 1,by omega⟩;rw [rs.body,if_neg hs,h0 f ao];simp only;rw [k4 f ao,append_assoc];rfl
  ·obtain ⟨pos,f1,k3⟩:=hl.2 (by simpa using hb);refine ⟨pos,f0+f1+1,fun f hf=>?_⟩;obtain ⟨f,rfl⟩:∃ g,f=g+1:=⟨f - 1,by omega⟩;rw [rs.body,if_neg hs,h0 f ao];exact k3 f ao
theorem rb.blk {l:List S} (C:rb l) {A:List Tok} {u w:Tok} (ho:S.cP l=true) (ht:A.map kf=S.mH l) (hu:u.kind=3) (fy:u.s=[123]) (hw:w.kind=3) (Dj:w.s=[125]) :
  Sx e (.block d) (u::(A++w::rest)) rest (fun t=>er t=.mk ⟨14,0,0,[],[]⟩ (S.trees l)) (decide (d<=60)&&S.fits l (d+1)):=by
 have hb:=C e (d+1) [] A rest w ho ht hw Dj
 by_cases hd:d<=60
 ·have:(decide (d<=60)&&S.fits l (d+1))=S.fits l (d+1):=by simp [hd]
  rw [this];refine ⟨fun h=>?_,fun h=>?_⟩
  ·obtain ⟨ys,k1,f0,h0⟩:=hb.1 h;refine ⟨one 14 u.at_ [] ys,by show er _=_;rw [dF,k1],f0+1,fun f hf=>?_⟩;obtain ⟨f,rfl⟩:∃ g,f=g+1:=⟨f - 1,by omega⟩;rw [rs,if_neg ao,qN hu fy];simp only;rw [h0 f ao];rfl
  ·obtain ⟨pos,f0,h0⟩:=hb.2 h;refine ⟨pos,f0+1,fun f hf=>?_⟩;obtain ⟨f,rfl⟩:∃ g,f=g+1:=⟨f - 1,by omega⟩;rw [rs,if_neg ao,qN hu fy];simp only;rw [h0 f ao]
 ·have:(decide (d<=60)&&S.fits l (d+1))=false:=by simp [hd]
  rw [this];exact ⟨fun hb=>(by cases hb),fun _=>⟨_,rZ fun f=>by rw [rs,if_pos ao]⟩⟩
theorem xo {j:qz} {x:Rd T} {iI:List Tok} {j':qz} {x':Rd T} (h:Es e j ts x) (hs:∀ f,rs e f j ts=x->rs e (f+1) j' iI=x'):Es e j' iI x':=by
 obtain ⟨f0,h0⟩:=h;refine ⟨f0+1,fun f hf=>?_⟩;obtain ⟨f,rfl⟩:∃ g,f=g+1:=⟨f - 1,by omega⟩;exact hs f (h0 f ao)
theorem Ig {j j2:qz} {x x2:Rd T} {iI vH:List Tok} {j':qz} {x':Rd T} (h:Es e j ts x) (h2:Es e j2 vH x2) (hs:∀ f,rs e f j ts=x->rs e f j2 vH=x2->rs e (f+1) j' iI=x'):Es e j' iI x':=by
 obtain ⟨f0,h0⟩:=h;obtain ⟨f1,h1⟩:=h2;refine ⟨f0+f1+1,fun f hf=>?_⟩;obtain ⟨f,rfl⟩:∃ g,f=g+1:=⟨f - 1,by omega⟩;exact hs f (h0 f ao) (h1 f ao)
theorem O8 (c:E) {l:List S} (C:rb l):re (.if1 c l):=by
 intro e d ts rest ho ht eY;simp only [S.ok,Bool.and_eq_true] at ho;rw [S.tk] at ht;obtain ⟨v,r,rfl,h1,h2⟩:=map_cons ht;obtain ⟨u,r,rfl,h3,h4⟩:=map_cons h2;obtain ⟨A,r,rfl,h5,h6⟩:=dc h4;obtain ⟨w,r,rfl,h7,h8⟩:=map_cons h6;obtain ⟨x,r,rfl,h9,la⟩:=map_cons h8;obtain ⟨B,r,rfl,oD,oa⟩:=dc la;obtain ⟨y,rfl,eI⟩:=gR oa;obtain ⟨h1,cI⟩:=dU h1;obtain ⟨h3,jY⟩:=dU h3;obtain ⟨h7,kv⟩:=dU h7;obtain ⟨h9,C9⟩:=dU h9;obtain ⟨eI,zX⟩:=dU eI
 have he:v::u::(A++w::x::(B++[y]))++rest=v::u::(A++w::(x::(B++y::rest))):=by simp
 have hi:=vh (e:=e) (d:=d+1) (rest:=x::(B++y::rest)) ho.1 h5 h3 jY h7 kv (by simp);have hb:=C.blk (e:=e) (d:=d+1) (rest:=rest) ho.2 oD h9 C9 eI zX;have hv:=tB (rest:=u::(A++w::(x::(B++y::rest)))) h1 cI;rw [he,S.fit]
 refine pF fun hd=>?_
 cases hfa:pM c (d+1) with
 | false =>
  refine ⟨fun hb=>(by simp at hb),fun _=>?_⟩;obtain ⟨pos,k1⟩:=hi.2 hfa;refine ⟨pos,rZ fun f=>?_⟩;rw [rs,if_neg ao];simp only;rw [if_neg (by rw [hv];decide),if_pos (.inl hv),tail_cons,k1]
 | true =>
  obtain ⟨tc,k1,k2⟩:=hi.1 hfa;rw [Bool.true_and];refine ⟨fun h=>?_,fun h=>?_⟩
  ·obtain ⟨tb,k3,k4⟩:=hb.1 h;refine ⟨one 9 v.at_ [] [tc,tb],by show er _=_;rw [dF,aM,aM,k1,k3,S.tree];rfl,xo k4 fun f k4=>?_⟩;rw [rs,if_neg ao];simp only;rw [if_neg (by rw [hv];decide),if_pos (.inl hv),tail_cons,k2];simp only;rw [k4];simp only;rw [if_pos hv,if_neg eY];rfl
  ·obtain ⟨pos,k3⟩:=hb.2 h;refine ⟨pos,xo k3 fun f k3=>?_⟩;rw [rs,if_neg ao];simp only;rw [if_neg (by rw [hv];decide),if_pos (.inl hv),tail_cons,k2];simp only;rw [k3]
theorem JQ (c:E) {l:List S} (C:rb l):re (.while_ c l):=by
 intro e d ts rest ho ht eY;simp only [S.ok,Bool.and_eq_true] at ho;rw [S.tk] at ht;obtain ⟨v,r,rfl,h1,h2⟩:=map_cons ht;obtain ⟨u,r,rfl,h3,h4⟩:=map_cons h2;obtain ⟨A,r,rfl,h5,h6⟩:=dc h4;obtain ⟨w,r,rfl,h7,h8⟩:=map_cons h6;obtain ⟨x,r,rfl,h9,la⟩:=map_cons h8;obtain ⟨B,r,rfl,oD,oa⟩:=dc la;obtain ⟨y,rfl,eI⟩:=gR oa;obtain ⟨h1,cI⟩:=dU h1;obtain ⟨h3,jY⟩:=dU h3;obtain ⟨h7,kv⟩:=dU h7;obtain ⟨h9,C9⟩:=dU h9;obtain ⟨eI,zX⟩:=dU eI
 have he:v::u::(A++w::x::(B++[y]))++rest=v::u::(A++w::(x::(B++y::rest))):=by simp
 have hi:=vh (e:=e) (d:=d+1) (rest:=x::(B++y::rest)) ho.1 h5 h3 jY h7 kv (by simp);have hb:=C.blk (e:=e) (d:=d+1) (rest:=rest) ho.2 oD h9 C9 eI zX;have hv:=tB (rest:=u::(A++w::(x::(B++y::rest)))) h1 cI;rw [he,S.fit]
 refine pF fun hd=>?_
 cases hfa:pM c (d+1) with
 | false =>
  refine ⟨fun hb=>(by simp at hb),fun _=>?_⟩;obtain ⟨pos,k1⟩:=hi.2 hfa;refine ⟨pos,rZ fun f=>?_⟩;rw [rs,if_neg ao];simp only;rw [if_neg (by rw [hv];decide),if_pos (.inr hv),tail_cons,k1]
 | true =>
  obtain ⟨tc,k1,k2⟩:=hi.1 hfa;rw [Bool.true_and];refine ⟨fun h=>?_,fun h=>?_⟩
  ·obtain ⟨tb,k3,k4⟩:=hb.1 h;refine ⟨one 10 v.at_ [] [tc,tb],by show er _=_;rw [dF,aM,aM,k1,k3,S.tree];rfl,xo k4 fun f k4=>?_⟩;rw [rs,if_neg ao];simp only;rw [if_neg (by rw [hv];decide),if_pos (.inr hv),tail_cons,k2];simp only;rw [k4];simp only;rw [if_neg (by rw [hv];decide)];rfl
  ·obtain ⟨pos,k3⟩:=hb.2 h;refine ⟨pos,xo k3 fun f k3=>?_⟩;rw [rs,if_neg ao];simp only;rw [if_neg (by rw [hv];decide),if_pos (.inr hv),tail_cons,k2];simp only;rw [k3]
theorem O9 (c:E) {l l2:List S} (C:rb l) (C2:rb l2):re (.if2 c l l2):=by
 intro e d ts rest ho ht eY;simp only [S.ok,Bool.and_eq_true] at ho;rw [S.tk] at ht;obtain ⟨v,r,rfl,h1,h2⟩:=map_cons ht;obtain ⟨u,r,rfl,h3,h4⟩:=map_cons h2;obtain ⟨A,r,rfl,h5,h6⟩:=dc h4;obtain ⟨w,r,rfl,h7,h8⟩:=map_cons h6;obtain ⟨x,r,rfl,h9,la⟩:=map_cons h8;obtain ⟨B,r,rfl,oD,oa⟩:=dc la;obtain ⟨y,r,rfl,eI,AU⟩:=map_cons oa;obtain ⟨z,r,rfl,Uo,h16⟩:=map_cons AU;obtain ⟨x2,r,rfl,Up,h18⟩:=map_cons h16;obtain ⟨B2,r,rfl,h19,h20⟩:=dc h18;obtain ⟨y2,rfl,Iu⟩:=gR h20;obtain ⟨h1,cI⟩:=dU h1;obtain ⟨h3,jY⟩:=dU h3;obtain ⟨h7,kv⟩:=dU h7;obtain ⟨h9,C9⟩:=dU h9;obtain ⟨eI,zX⟩:=dU eI;obtain ⟨Uo,YX⟩:=dU Uo;obtain ⟨Up,YY⟩:=dU Up;obtain ⟨Iu,YZ⟩:=dU Iu
 have he:v::u::(A++w::x::(B++y::z::x2::(B2++[y2])))++rest=v::u::(A++w::(x::(B++y::(z::(x2::(B2++y2::rest)))))):=by simp
 have hi:=vh (e:=e) (d:=d+1) (rest:=x::(B++y::(z::(x2::(B2++y2::rest))))) ho.1 h5 h3 jY h7 kv (by simp);have hb:=C.blk (e:=e) (d:=d+1) (rest:=z::(x2::(B2++y2::rest))) ho.2.1 oD h9 C9 eI zX;have eJ:=C2.blk (e:=e) (d:=d+1) (rest:=rest) ho.2.2 h19 Up YY Iu YZ;have hv:=tB (rest:=u::(A++w::(x::(B++y::(z::(x2::(B2++y2::rest))))))) h1 cI;have hz:=tB (rest:=x2::(B2++y2::rest)) Uo YX;rw [he,S.fit]
 refine pF fun hd=>?_
 cases hfa:pM c (d+1) with
 | false =>
  refine ⟨fun hb=>(by simp at hb),fun _=>?_⟩;obtain ⟨pos,k1⟩:=hi.2 hfa;refine ⟨pos,rZ fun f=>?_⟩;rw [rs,if_neg ao];simp only;rw [if_neg (by rw [hv];decide),if_pos (.inl hv),tail_cons,k1]
 | true =>
  obtain ⟨tc,k1,k2⟩:=hi.1 hfa;rw [Bool.true_and]
  cases hfb:(decide (d+1<=60)&&S.fits l (d+2)) with
  | false =>
   refine ⟨fun hb=>(by simp at hb),fun _=>?_⟩;obtain ⟨pos,k3⟩:=hb.2 hfb;refine ⟨pos,xo k3 fun f k3=>?_⟩;rw [rs,if_neg ao];simp only;rw [if_neg (by rw [hv];decide),if_pos (.inl hv),tail_cons,k2];simp only;rw [k3]
  | true =>
   obtain ⟨tb,k3,k4⟩:=hb.1 hfb;rw [Bool.true_and];refine ⟨fun h=>?_,fun h=>?_⟩
   ·obtain ⟨tb2,k5,k6⟩:=eJ.1 h;refine ⟨one 9 v.at_ [] [tc,tb,tb2],by show er _=_;rw [dF,aM,aM,aM,k1,k3,k5,S.tree];rfl,Ig k4 k6 fun f k4 k6=>?_⟩;rw [rs,if_neg ao];simp only;rw [if_neg (by rw [hv];decide),if_pos (.inl hv),tail_cons,k2];simp only;rw [k4];simp only;rw [if_pos hv,if_pos hz,tail_cons,k6];rfl
   ·obtain ⟨pos,k5⟩:=eJ.2 h;refine ⟨pos,Ig k4 k5 fun f k4 k5=>?_⟩;rw [rs,if_neg ao];simp only;rw [if_neg (by rw [hv];decide),if_pos (.inl hv),tail_cons,k2];simp only;rw [k4];simp only;rw [if_pos hv,if_pos hz,tail_cons,k5]
end
mutual
theorem coreS:∀ (s:S),re s
 | .set s a=>Pd s a
 | .put s a b=>Pb s a b
 | .if1 c b=>O8 c (yn b)
 | .if2 c b b2=>O9 c (yn b) (yn b2)
 | .while_ c b=>JQ c (yn b)
 | .ret a=>Pc a
 | .do_ a=>Sn a
 | .var s a=>Pe s a
theorem yn:∀ (l:List S),rb l
 | []=>L8
 | a::l=>JO (coreS a) (yn l)
end
def JJ (l:List S):List K:=kS [123]::(S.mH l++[kS [125]])
def bG (l:List S):T:=.mk ⟨14,0,0,[],[]⟩ (S.trees l)
def ew (l:List S) (d:Nat):Bool:=decide (d<=60)&&S.fits l (d+1)
theorem Xs (e:Int):∀ f,(∀ j ts,rs e f j ts=.error aX\/rs e (f+1) j ts=rs e f j ts)/\(∀ d acc ts,rs.body e f d acc ts=.error aX\/rs.body e (f+1) d acc ts=rs.body e f d acc ts):=by
 intro f
 induction f with
 | zero=>exact ⟨fun j ts=>.inl (by simp [rs]),fun d acc ts=>.inl (by simp [rs.body])⟩
 | succ f ih =>
  obtain ⟨i1,i2⟩:=ih;refine ⟨fun j ts=>?_,fun d acc ts=>?_⟩
  ·cases j with
   | block d =>
    rw [rs,rs];split
    ·exact .inr rfl
    ·cases aL e [123] ts with
     | error x=>exact .inr rfl
     | ok r =>
      simp only
      rcases i2 (d+1) [] r with h | h
      ·left;rw [h]
      ·rw [h];exact .inr rfl
   | stmt d =>
    rw [rs,rs];split
    ·exact .inr rfl
    ·simp only;split
     ·exact .inr rfl
     ·split
      ·cases inner e (d+1) [40] [41] ts.tail with
       | error x=>exact .inr rfl
       | ok y =>
        obtain ⟨c,r⟩:=y;simp only
        rcases i1 (.block (d+1)) r with h | h
        ·left;rw [h]
        ·rw [h]
         cases rs e f (.block (d+1)) r with
         | error x=>exact .inr rfl
         | ok y =>
          obtain ⟨b,r⟩:=y;simp only;split
          ·split
           ·rcases i1 (.block (d+1)) r.tail with h | h
            ·left;rw [h]
            ·rw [h];exact .inr rfl
           ·exact .inr rfl
          ·exact .inr rfl
      ·exact .inr rfl
  ·rw [rs.body,rs.body];split
   ·exact .inr rfl
   ·rcases i1 (.stmt d) ts with h | h
    ·left;rw [h]
    ·rw [h]
     cases rs e f (.stmt d) ts with
     | error x=>exact .inr rfl
     | ok y=>exact i2 _ _ _
theorem Tg {e:Int} {f f':Nat} {j:qz} {ts:List Tok} (h:rs e f j ts≠.error aX) (hf:f<=f'):rs e f' j ts=rs e f j ts:=by
 obtain ⟨k,rfl⟩:=Nat.exists_eq_add_of_le hf;clear hf
 induction k with
 | zero=>rfl
 | succ k ih =>
  rcases (Xs e (f+k)).1 j ts with h1 | h1
  ·rw [ih] at h1;exact absurd h1 h
  ·rw [<-Nat.add_assoc,h1,ih]
theorem EC {l:List S} {e:Int} {d:Nat} {ts rest:List Tok} (ho:S.cP l=true) (ht:ts.map kf=JJ l) :
  (ew l d=true->∃ t,er t=bG l/\block e d (ts++rest)=.ok (t,rest))/\(ew l d=false->∃ pos,block e d (ts++rest)=.error (9,pos)):=by
 obtain ⟨u,r,rfl,h1,h2⟩:=map_cons ht;obtain ⟨A,r,rfl,h3,h4⟩:=dc h2;obtain ⟨w,rfl,h5⟩:=gR h4;obtain ⟨h1,cI⟩:=dU h1;obtain ⟨h5,Q9⟩:=dU h5;have hb:=(yn l).blk (e:=e) (d:=d) (rest:=rest) ho h3 h1 cI h5 Q9
 have he:u::(A++[w])++rest=u::(A++w::rest):=by simp
 rw [he]
 have key:∀ {x:Rd T},Es e (.block d) (u::(A++w::rest)) x->block e d (u::(A++w::rest))=x:=by
  rintro x ⟨f0,h0⟩;have bP:rs e (mq (u::(A++w::rest))) (.block d) (u::(A++w::rest))≠.error aX:=vM;have:=Tg bP (Nat.le_add_left _ f0);rw [h0 _ ao] at this;exact this.symm
 exact ⟨fun h=>by obtain ⟨t,k1,k2⟩:=hb.1 h;exact ⟨t,k1,key k2⟩,fun h=>by obtain ⟨pos,k1⟩:=hb.2 h;exact ⟨pos,key k1⟩⟩
end Go.Xp
namespace Go.Xp
open Go.Sp (bp eB c8 bW bN own mC fZ bj)
def yU (n:Int):Int:=if n % 4294967296 > 2147483647 then n % 4294967296 - 4294967296 else n % 4294967296
def cD (n:Nat):ah:=if h:n < 10 then [UInt8.ofNat (48+n)] else cD (n / 10)++[UInt8.ofNat (48+n % 10)]
termination_by n
decreasing_by omega
theorem oV (n:Nat):(cD n).length<=n+1:=by
 induction n using Nat.strongRecOn with
 | _ n ih =>
 unfold cD
 by_cases h:n < 10
 ·rw [dif_pos h];simp
 ·rw [dif_neg h,length_append];have:=ih (n / 10) ao;simp;omega
def bC:List ah->ah
 | []=>[]
 | x::r=>x++r.flatMap fun y=>44::32::y
theorem Bh {l:List ah} (h:l≠[]) (x:ah):bC (l++[x])=(bC l++[44,32])++x:=by
 cases l with
 | nil=>exact absurd rfl h
 | cons a l=>simp [bC,List.flatMap_append]
theorem we (l:List ah) (k:Nat):(bC (l.take k)).length<=(bC l).length:=by
 cases l with
 | nil=>simp
 | cons a l =>
  cases k with
  | zero=>simp [bC]
  | succ k =>
   simp only [take_succ_cons,bC,length_append]
   have:∀ (l:List ah) (k:Nat),((l.take k).flatMap fun y=>(44:UInt8)::32::y).length<=(l.flatMap fun y=>(44:UInt8)::32::y).length:=by
    intro l
    induction l with
    | nil=>intro k;simp
    | cons b l ih=>intro k;cases k with
     | zero=>simp
     | succ k=>simp only [take_succ_cons,flatMap_cons,length_append];have:=ih k;omega
   have:=this l k;omega
def qm (lv k:Nat) (x:ah):ah:=if lv < k then (40::x)++[41] else x
mutual
def E.txt:E->ah
 | .num n=>cD n.toNat
 | .name s=>s
 | .at_ s a=>((s++[91])++a.txt)++[93]
 | .call s l=>((s++[40])++bC (E.cM l))++[41]
 | .un s a=>(s++[32])++qm a.lv 9 a.txt
 | .bin s a b=>(((qm a.lv (dO s) a.txt++[32])++s)++[32])++qm b.lv (dO s+1) b.txt
def E.cM:List E->List ah
 | []=>[]
 | a::l=>a.txt::E.cM l
end
mutual
def E.full:E->ah
 | .num n=>cD n.toNat
 | .name s=>s
 | .at_ s a=>((s++[91])++a.full)++[93]
 | .call s l=>((s++[40])++bC (E.si l))++[41]
 | .un s a=>((40::s)++a.full)++[41]
 | .bin s a b=>(((((40::a.full)++[32])++s)++[32])++b.full)++[41]
def E.si:List E->List ah
 | []=>[]
 | a::l=>a.full::E.si l
end
theorem E.QJ (l:List E):E.cM l=l.map E.txt:=by
 induction l with
 | nil=>rfl
 | cons a l ih=>rw [E.cM,ih];rfl
theorem E.MF (l:List E):E.si l=l.map E.full:=by
 induction l with
 | nil=>rfl
 | cons a l ih=>rw [E.si,ih];rfl
def E.out (least:Bool) (a:E):ah:=if least then a.txt else a.full
mutual
def S.txt (x:E->ah):S->ah
 | .set s a=>((s++[32,61,32])++x a)++[59]
 | .put s a b=>((((s++[91])++x a)++[93,32,61,32])++x b)++[59]
 | .if1 c b=>(([105,102,32,40]++x c)++[41,32])++(S.cM x [123,32] b++[125])
 | .if2 c b b2=>(((([105,102,32,40]++x c)++[41,32])++(S.cM x [123,32] b++[125]))++[32,101,108,115,101,32])++(S.cM x [123,32] b2++[125])
 | .while_ c b=>(([119,104,105,108,101,32,40]++x c)++[41,32])++(S.cM x [123,32] b++[125])
 | .ret a=>([114,101,116,117,114,110,32]++x a)++[59]
 | .do_ a=>x a++[59]
 | .var s a=>((([118,97,114,32]++s)++[32,61,32])++x a)++[59]
def S.cM (x:E->ah):ah->List S->ah
 | acc,[]=>acc
 | acc,a::l=>S.cM x ((acc++a.txt x)++[32]) l
end
def eW (x:E->ah) (l:List S):ah:=S.cM x [123,32] l++[125]
theorem HR (n:Nd) (l:List T):c8 (.mk n l)=(bW l&&bN (.mk n l)):=by rw [c8]
theorem tM {l:List T} (h:bW l=true) {t:T} (ht:t∈l):c8 t=true:=by
 induction l with
 | nil=>cases ht
 | cons a l ih =>
  rw [bW,Bool.and_eq_true] at h
  rcases List.mem_cons.1 ht with rfl | ht
  ·exact h.1
  ·exact ih h.2 ht
theorem lZ (n:Nd) (l:List T):er (.mk n l)=.mk ⟨n.kind,0,n.n,n.s,[]⟩ (aM l):=by rw [er]
theorem iq {l:List T} {m i:Nat} (h:bj m i l=true):∀ (j:Nat) t,l[j]?=some t->(if i+j < m then mC t.n.kind else t.n.kind==14)=true:=by
 induction l generalizing i with
 | nil=>intro j t h;simp at h
 | cons a l ih =>
  rw [bj,Bool.and_eq_true] at h;intro j t hj
  cases j with
  | zero=>cases hj;exact h.1
  | succ j=>have:=ih h.2 j t (by simpa using hj);rw [show i+(j+1)=i+1+j by omega];exact this
theorem ER:∀ (l:List T),(∀ t∈l,∃ a:E,a.ok=true/\er t=a.tree)->∃ es:List E,E.cP es=true/\aM l=E.trees es
 | [],_=>⟨[],rfl,rfl⟩
 | t::l,h=>by
  obtain ⟨a,h1,h2⟩:=h t (mem_cons_self);obtain ⟨es,h3,h4⟩:=ER l (fun t ht=>h t (mem_cons_of_mem _ ht));exact ⟨a::es,by simp [E.cP,h1,h3],by rw [aM,E.trees,h2,h4]⟩
theorem toE:∀ (sz:Nat) (t:T),sizeOf t<=sz->c8 t=true->mC t.n.kind=true->∃ a:E,a.ok=true/\er t=a.tree:=by
 intro sz
 induction sz with
 | zero=>intro t h;cases t;simp at h
 | succ sz ih =>
  intro t cU ha hk;obtain ⟨n,l⟩:=t;rw [HR,Bool.and_eq_true] at ha;obtain ⟨ha,ho⟩:=ha
  have pU:∀ t∈l,mC t.n.kind=true->∃ a:E,a.ok=true/\er t=a.tree:=fun t ht hk=>by
   have:=List.sizeOf_lt_of_mem ht;exact ih t (by simp at cU;omega) (tM ha ht) hk
  obtain ⟨k,at_,v,s,ks⟩:=n
  have hk:(1:Int)<=k/\k<=6:=by
   simp only [mC,T.n,Bool.and_eq_true] at hk;exact ⟨of_decide_eq_true hk.1,of_decide_eq_true hk.2⟩
  simp only [bN,own,T.n,T.kids] at ho
  obtain rfl | rfl | rfl | rfl | rfl | rfl:k=1\/k=2\/k=3\/k=4\/k=5\/k=6:=by omega
  ·simp at ho;obtain ⟨h1,h2,h3,h4,h5⟩:=ho;subst h4 h5;exact ⟨.num v,by simp only [E.ok,Bool.and_eq_true];exact ⟨h2,h3⟩,by rw [lZ,E.tree];rfl⟩
  ·simp at ho;obtain ⟨h1,h2,h3,h4⟩:=ho;subst h2 h4;exact ⟨.name s,by simp [E.ok,h3],by rw [lZ,E.tree];rfl⟩
  ·simp at ho;obtain ⟨h1,h2,h3,h4,h5⟩:=ho;subst h2
   match l,h4 with
   | [t],_ =>
    have wZ:=iq h5 0 t rfl;obtain ⟨a,h6,h7⟩:=pU t (by simp) (by simpa using wZ);exact ⟨.at_ s a,by simp [E.ok,h3,h6],by rw [lZ,E.tree,aM,h7];rfl⟩
  ·simp at ho;obtain ⟨h1,h2,h3,h5⟩:=ho;subst h2
   obtain ⟨es,h6,h7⟩:=ER l fun t ht=>pU t ht (by
    obtain ⟨j,hj⟩:=List.mem_iff_getElem?.1 ht;have ak:=(List.getElem?_eq_some_iff.1 hj).1;have:=iq h5 j t hj
    rw [if_pos ao] at this;exact this)
   exact ⟨.call s es,by simp [E.ok,h3,h6],by rw [lZ,E.tree,h7]⟩
  ·simp at ho;obtain ⟨h1,h2,h3,h4,h5⟩:=ho;subst h2
   match l,h4 with
   | [t],_ =>
    have wZ:=iq h5 0 t rfl;obtain ⟨a,h6,h7⟩:=pU t (by simp) (by simpa using wZ);exact ⟨.un s a,by simp only [E.ok,h6,Bool.and_true,Bool.or_eq_true,beq_iff_eq];exact h3,by rw [lZ,E.tree,aM,h7];rfl⟩
  ·simp at ho;obtain ⟨h1,h2,h3,h4,h5⟩:=ho;subst h2
   match l,h4 with
   | [t,u],_ =>
    have wZ:=iq h5 0 t rfl;have hku:=iq h5 1 u rfl;obtain ⟨a,h6,h7⟩:=pU t (by simp) (by simpa using wZ);obtain ⟨b,h8,h9⟩:=pU u (by simp) (by simpa using hku);exact ⟨.bin s a b,by simp [E.ok,h3,h6,h8],by rw [lZ,E.tree,aM,aM,h7,h9];rfl⟩
theorem Gu:∀ (l:List T),(∀ t∈l,∃ a:S,a.ok=true/\er t=a.tree)->∃ es:List S,S.cP es=true/\aM l=S.trees es
 | [],_=>⟨[],rfl,rfl⟩
 | t::l,h=>by
  obtain ⟨a,h1,h2⟩:=h t (mem_cons_self);obtain ⟨es,h3,h4⟩:=Gu l (fun t ht=>h t (mem_cons_of_mem _ ht));exact ⟨a::es,by simp [S.cP,h1,h3],by rw [aM,S.trees,h2,h4]⟩
theorem toS:∀ (sz:Nat) (t:T),sizeOf t<=sz->c8 t=true->(fZ t.n.kind=true->∃ a:S,a.ok=true/\er t=a.tree)/\(t.n.kind=14->∃ l:List S,S.cP l=true/\er t=bG l):=by
 intro sz
 induction sz with
 | zero=>intro t h;cases t;simp at h
 | succ sz ih =>
  intro t cU ha;obtain ⟨n,l⟩:=t;rw [HR,Bool.and_eq_true] at ha;obtain ⟨ha,ho⟩:=ha
  have hex:∀ t∈l,mC t.n.kind=true->∃ a:E,a.ok=true/\er t=a.tree:=fun t ht hk=>toE _ t (Nat.le_refl _) (tM ha ht) hk
  have dk:∀ t∈l,t.n.kind=14->∃ l:List S,S.cP l=true/\er t=bG l:=fun t ht hk=>by
   have:=List.sizeOf_lt_of_mem ht;exact (ih t (by simp at cU;omega) (tM ha ht)).2 hk
  have cq:∀ t∈l,fZ t.n.kind=true->∃ a:S,a.ok=true/\er t=a.tree:=fun t ht hk=>by
   have:=List.sizeOf_lt_of_mem ht;exact (ih t (by simp at cU;omega) (tM ha ht)).1 hk
  obtain ⟨k,at_,v,s,ks⟩:=n;simp only [bN,own,T.n,T.kids] at ho;refine ⟨fun hk=>?_,fun hk=>?_⟩
  ·have hk:(7:Int)<=k/\k<=13:=by
    simp only [fZ,T.n,Bool.and_eq_true] at hk;exact ⟨of_decide_eq_true hk.1,of_decide_eq_true hk.2⟩
   obtain rfl | rfl | rfl | rfl | rfl | rfl | rfl:k=7\/k=8\/k=9\/k=10\/k=11\/k=12\/k=13:=by omega
   ·simp at ho;obtain ⟨h1,h2,h3,h4,h5⟩:=ho;subst h2
    match l,h4 with
    | [t],_ =>
     obtain ⟨a,h6,h7⟩:=hex t (by simp) (by simpa using iq h5 0 t rfl);exact ⟨.set s a,by simp [S.ok,h3,h6],by rw [lZ,S.tree,aM,h7];rfl⟩
   ·simp at ho;obtain ⟨h1,h2,h3,h4,h5⟩:=ho;subst h2
    match l,h4 with
    | [t,u],_ =>
     obtain ⟨a,h6,h7⟩:=hex t (by simp) (by simpa using iq h5 0 t rfl);obtain ⟨b,h8,h9⟩:=hex u (by simp) (by simpa using iq h5 1 u rfl);exact ⟨.put s a b,by simp [S.ok,h3,h6,h8],by rw [lZ,S.tree,aM,aM,h7,h9];rfl⟩
   ·simp at ho;obtain ⟨h1,h2,h3,h4,h5⟩:=ho;subst h2 h3
    rcases h4 with h4 | h4
    ·match l,h4 with
     | [t,u],_ =>
      obtain ⟨a,h6,h7⟩:=hex t (by simp) (by simpa using iq h5 0 t rfl);obtain ⟨b,h8,h9⟩:=dk u (by simp) (by simpa using iq h5 1 u rfl);exact ⟨.if1 a b,by simp [S.ok,h6,h8],by rw [lZ,S.tree,aM,aM,h7,h9];rfl⟩
    ·match l,h4 with
     | [t,u,w],_ =>
      obtain ⟨a,h6,h7⟩:=hex t (by simp) (by simpa using iq h5 0 t rfl);obtain ⟨b,h8,h9⟩:=dk u (by simp) (by simpa using iq h5 1 u rfl);obtain ⟨c,la,oD⟩:=dk w (by simp) (by simpa using iq h5 2 w rfl);exact ⟨.if2 a b c,by simp [S.ok,h6,h8,la],by rw [lZ,S.tree,aM,aM,aM,h7,h9,oD];rfl⟩
   ·simp at ho;obtain ⟨h1,h2,h3,h4,h5⟩:=ho;subst h2 h3
    match l,h4 with
    | [t,u],_ =>
     obtain ⟨a,h6,h7⟩:=hex t (by simp) (by simpa using iq h5 0 t rfl);obtain ⟨b,h8,h9⟩:=dk u (by simp) (by simpa using iq h5 1 u rfl);exact ⟨.while_ a b,by simp [S.ok,h6,h8],by rw [lZ,S.tree,aM,aM,h7,h9];rfl⟩
   ·simp at ho;obtain ⟨h1,h2,h3,h4,h5⟩:=ho;subst h2 h3
    match l,h4 with
    | [t],_ =>
     obtain ⟨a,h6,h7⟩:=hex t (by simp) (by simpa using iq h5 0 t rfl);exact ⟨.ret a,by simp [S.ok,h6],by rw [lZ,S.tree,aM,h7];rfl⟩
   ·simp at ho;obtain ⟨h1,h2,h3,h4,h5⟩:=ho;subst h2 h3
    match l,h4 with
    | [t],_ =>
     obtain ⟨a,h6,h7⟩:=hex t (by simp) (by simpa using iq h5 0 t rfl);exact ⟨.do_ a,by simp [S.ok,h6],by rw [lZ,S.tree,aM,h7];rfl⟩
   ·simp at ho;obtain ⟨h1,h2,h3,h4,h5⟩:=ho;subst h2
    match l,h4 with
    | [t],_ =>
     obtain ⟨a,h6,h7⟩:=hex t (by simp) (by simpa using iq h5 0 t rfl);exact ⟨.var s a,by simp [S.ok,h3,h6],by rw [lZ,S.tree,aM,h7];rfl⟩
  ·simp only [T.n] at hk;subst hk;simp at ho;obtain ⟨h1,h2,h3,h4⟩:=ho;subst h2 h4
   obtain ⟨es,h5,h6⟩:=Gu l fun t ht=>cq t ht (h3 t ht)
   exact ⟨es,h5,by rw [lZ,bG,h6]⟩
theorem toB {t:T} (h:c8 t=true) (hk:t.n.kind=14):∃ l:List S,S.cP l=true/\er t=bG l:=(toS _ t (Nat.le_refl _) h).2 hk
mutual
def wt:T->Nat
 | .mk n l=>30+n.s.length+eH l
def eH:List T->Nat
 | []=>0
 | t::l=>wt t+eH l
end
mutual
theorem R6:∀ t:T,wt (er t)=wt t
 | .mk n l=>by rw [er,wt,wt,Jw l]
theorem Jw:∀ l:List T,eH (aM l)=eH l
 | []=>rfl
 | t::l=>by rw [aM,eH,eH,R6 t,Jw l]
end
theorem H4:∀ (k n:Nat),n < 10 ^ (k+1)->(cD n).length<=k+1:=by
 intro k
 induction k with
 | zero=>intro n h;unfold cD;rw [dif_pos ao];simp
 | succ k ih =>
  intro n h;unfold cD;split
  ·simp
  ·rw [length_append];have:=ih (n / 10) (by rw [Nat.pow_succ] at h;omega);simp;omega
theorem su (lv k:Nat) (x:ah):(qm lv k x).length<=x.length+2:=by unfold qm;split <;> simp
mutual
theorem E.len:∀ a:E,a.ok=true->a.txt.length+4<=wt a.tree/\a.full.length+4<=wt a.tree
 | .num n,h=>by
  simp only [E.ok,Bool.and_eq_true] at h;have h1:=of_decide_eq_true h.1;have h2:=of_decide_eq_true h.2;have:=H4 9 n.toNat ao;rw [E.txt,E.full,E.tree,wt];simp only [length_nil,eH];omega
 | .name s,h=>by rw [E.txt,E.full,E.tree,wt];simp only [eH];omega
 | .at_ s a,h=>by
  simp only [E.ok,Bool.and_eq_true] at h;have:=E.len a h.2;rw [E.txt,E.full,E.tree,wt];simp only [eH,length_append,length_cons,length_nil];omega
 | .call s l,h=>by
  simp only [E.ok,Bool.and_eq_true] at h;have:=E.lens l h.2;rw [E.txt,E.full,E.tree,wt];simp only [length_append,length_cons,length_nil];omega
 | .un s a,h=>by
  simp only [E.ok,Bool.and_eq_true] at h;have:=E.len a h.2;have:=su a.lv 9 a.txt;rw [E.txt,E.full,E.tree,wt];simp only [eH,length_append,length_cons,length_nil];omega
 | .bin s a b,h=>by
  simp only [E.ok,Bool.and_eq_true] at h;have:=E.len a h.1.2;have:=E.len b h.2;have:=su a.lv (dO s) a.txt;have:=su b.lv (dO s+1) b.txt;rw [E.txt,E.full,E.tree,wt];simp only [eH,length_append,length_cons,length_nil];omega
theorem E.lens:∀ l:List E,E.cP l=true->(bC (E.cM l)).length<=eH (E.trees l)/\(bC (E.si l)).length<=eH (E.trees l)
 | [],_=>⟨Nat.zero_le _,Nat.zero_le _⟩
 | a::l,h=>by
  simp only [E.cP,Bool.and_eq_true] at h;have h1:=E.len a h.1;have h2:=E.lens l h.2;rw [E.cM,E.si,E.trees,eH]
  have key:∀ (x:ah) (l:List ah),(bC (x::l)).length<=x.length+2+(bC l).length:=by
   intro x l
   cases l with
   | nil=>simp [bC]
   | cons y l=>simp [bC];omega
  have:=key a.txt (E.cM l);have:=key a.full (E.si l);omega
end
mutual
theorem S.len (x:E->ah) (hx:∀ a:E,a.ok=true->(x a).length+4<=wt a.tree):∀ s:S,s.ok=true->(s.txt x).length+4<=wt s.tree
 | .set s a,h=>by
  simp only [S.ok,Bool.and_eq_true] at h;have:=hx a h.2;rw [S.txt,S.tree,wt];simp only [eH,length_append,length_cons,length_nil];omega
 | .put s a b,h=>by
  simp only [S.ok,Bool.and_eq_true] at h;have:=hx a h.2.1;have:=hx b h.2.2;rw [S.txt,S.tree,wt];simp only [eH,length_append,length_cons,length_nil];omega
 | .if1 c b,h=>by
  simp only [S.ok,Bool.and_eq_true] at h;have:=hx c h.1;have:=S.lens x hx b h.2 [123,32];rw [S.txt,S.tree,wt];simp only [eH,wt,length_append,length_cons,length_nil] at *;omega
 | .if2 c b b2,h=>by
  simp only [S.ok,Bool.and_eq_true] at h;have:=hx c h.1;have:=S.lens x hx b h.2.1 [123,32];have:=S.lens x hx b2 h.2.2 [123,32];rw [S.txt,S.tree,wt];simp only [eH,wt,length_append,length_cons,length_nil] at *;omega
 | .while_ c b,h=>by
  simp only [S.ok,Bool.and_eq_true] at h;have:=hx c h.1;have:=S.lens x hx b h.2 [123,32];rw [S.txt,S.tree,wt];simp only [eH,wt,length_append,length_cons,length_nil] at *;omega
 | .ret a,h=>by
  simp only [S.ok] at h;have:=hx a h;rw [S.txt,S.tree,wt];simp only [eH,length_append,length_cons,length_nil];omega
 | .do_ a,h=>by
  simp only [S.ok] at h;have:=hx a h;rw [S.txt,S.tree,wt];simp only [eH,length_append,length_cons,length_nil];omega
 | .var s a,h=>by
  simp only [S.ok,Bool.and_eq_true] at h;have:=hx a h.2;rw [S.txt,S.tree,wt];simp only [eH,length_append,length_cons,length_nil];omega
theorem S.lens (x:E->ah) (hx:∀ a:E,a.ok=true->(x a).length+4<=wt a.tree):∀ l:List S,S.cP l=true->∀ acc:ah,(S.cM x acc l).length<=acc.length+eH (S.trees l)
 | [],_,acc=>by rw [S.cM];omega
 | a::l,h,acc=>by
  simp only [S.cP,Bool.and_eq_true] at h;have h1:=S.len x hx a h.1;have h2:=S.lens x hx l h.2 ((acc++a.txt x)++[32]);rw [S.cM,S.trees,eH];simp only [length_append,length_cons,length_nil] at h2;omega
end
theorem sr (x:E->ah) (hx:∀ a:E,a.ok=true->(x a).length+4<=wt a.tree) {l:List S} (h:S.cP l=true):(eW x l).length<=wt (bG l):=by
 have:=S.lens x hx l h [123,32];unfold eW bG;rw [wt];simp only [length_append,length_cons,length_nil] at *;omega
end Go.Xp
namespace Go.Im
open Go.Xp Go.Sp
def qh (g:Nat->Option (T × Nat)):List Int->Nat->List T->Option (List T × Nat)
 | [],next,acc=>some (acc,next)
 | k::r,next,acc=>if k=(next:Int) then match g next with
  | none=>none
  | some (t,e)=>qh g r e (acc++[t])
  else none
def oo (nodes:List Nd):Nat->Nat->Option (T × Nat)
 | 0,_=>none
 | f+1,a=>match nodes[a]? with
  | none=>none
  | some n=>match qh (oo nodes f) n.kids (a+1) [] with
   | none=>none
   | some (l,e)=>if n.at_ < 0 then none else some (.mk n l,e)
def tr (nodes:List Nd) (a:Nat):Option (T × Nat):=oo nodes (nodes.length+1) a
theorem GJ {nodes:List Nd} {g:Nat->Option (T × Nat)} (hg:∀ a t e,g a=some (t,e)->a < e/\e<=nodes.length/\e=a+aP t/\(nodes.take e).drop a=lO a t) :
  ∀ (ks:List Int) (next:Nat) (acc l:List T) (e:Nat),next<=nodes.length->qh g ks next acc=some (l,e)->∃ l',l=acc++l'/\e=next+az l'/\e<=nodes.length/\ks=bX next l'/\(nodes.take e).drop next=ef next l'
 | [],next,acc,l,e,hn,h=>by
  rw [qh] at h;cases h;exact ⟨[],by simp,by simp [az],hn,rfl,by rw [ef];exact eq_nil_of_length_eq_zero (by rw [length_drop,length_take];omega)⟩
 | k::r,next,acc,l,e,hn,h=>by
  rw [qh] at h;split at h
  ·rename_i hk
   cases hq:g next with
   | none=>rw [hq] at h;cases h
   | some x =>
    obtain ⟨t,e1⟩:=x;rw [hq] at h;simp only at h;obtain ⟨a1,a2,a3,a4⟩:=hg _ _ _ hq;obtain ⟨l',b1,b2,b3,b4,b5⟩:=GJ hg r e1 (acc++[t]) l e a2 h;refine ⟨t::l',by rw [b1];simp,by rw [az];omega,b3,by rw [bX,<-a3,<-b4,hk],?_⟩;rw [ef,<-a3,<-a4,<-b5]
    have he:e1<=e:=by omega
    have h1:(nodes.take e).take e1=nodes.take e1:=by rw [List.take_take,Nat.min_eq_left he]
    have h2:(nodes.take e).drop next=((nodes.take e).take e1).drop next++(nodes.take e).drop e1:=by
     have h3:nodes.take e=(nodes.take e).take e1++(nodes.take e).drop e1:=(take_append_drop _ _).symm
     have h4:((nodes.take e).take e1).length=e1:=by rw [length_take,length_take];omega
     rw [h3,List.drop_append_of_le_length (by rw [h4];omega)];rw [<-h3]
    rw [h2,h1]
  ·cases h
theorem Ay {nodes:List Nd}:∀ (f a:Nat) (t:T) (e:Nat),oo nodes f a=some (t,e)->a < e/\e<=nodes.length/\e=a+aP t/\(nodes.take e).drop a=lO a t
 | 0,a,t,e,h=>by cases h
 | f+1,a,t,e,h=>by
  rw [oo] at h
  cases hn:nodes[a]? with
  | none=>rw [hn] at h;cases h
  | some n =>
   rw [hn] at h;simp only at h;have ak:=(List.getElem?_eq_some_iff.1 hn).1
   cases hk:qh (oo nodes f) n.kids (a+1) [] with
   | none=>rw [hk] at h;cases h
   | some x =>
    obtain ⟨l,e1⟩:=x;rw [hk] at h;simp only at h;split at h
    ·cases h
    ·cases h;obtain ⟨l',b1,b2,b3,b4,b5⟩:=GJ (Ay f) n.kids (a+1) [] l e ak hk
     have:l'=l:=by rw [b1];rfl
     subst this;refine ⟨by omega,b3,by rw [aP];omega,?_⟩;rw [lO,<-b4,<-b5]
     have h1:(nodes.take e)[a]?=some n:=by rw [getElem?_take,if_pos ao];exact hn
     obtain ⟨h2,h3⟩:=List.getElem?_eq_some_iff.1 h1;rw [List.drop_eq_getElem_cons h2,h3]
def jj (nodes:List Nd):List Fn->Nat->List T->Option (List T × Nat)
 | [],next,acc=>some (acc,next)
 | f::r,next,acc=>match tr nodes next with
  | none=>none
  | some (t,e)=>if f.body=(next:Int) then jj nodes r e (acc++[t]) else none
def cY (k:Int) (n:Nat):Bool :=
 if k=1\/k=2 then ((n:Int)==0)
 else if k=4\/k=14 then true
 else if k=3\/k=5\/k=7\/k=11\/k=12\/k=13 then ((n:Int)==1)
 else if k=6\/k=8\/k=10 then ((n:Int)==2)
 else if k=9 then ((n:Int)==2) || ((n:Int)==3)
 else false
mutual
def fQ:T->Bool
 | .mk n l=>cY n.kind l.length&&uE l
def uE:List T->Bool
 | []=>true
 | t::r=>fQ t&&uE r
end
theorem xS (t:T):fQ t=(cY t.n.kind t.kids.length&&uE t.kids):=by cases t;rw [fQ];rfl
theorem th (l:List T):uE l=l.all fQ:=by
 induction l with
 | nil=>rfl
 | cons t l ih=>rw [uE,ih];rfl
mutual
def eu (nodes:List Nd):Nat->T->Prop
 | a,.mk n l=>nodes[a]?=some n/\n.kids=bX (a+1) l/\dy nodes (a+1) l
def dy (nodes:List Nd):Nat->List T->Prop
 | _,[]=>True
 | a,t::r=>eu nodes a t/\dy nodes (a+aP t) r
end
mutual
def xf:T->Prop
 | .mk n l=>0<=n.at_/\lY l
def lY:List T->Prop
 | []=>True
 | t::r=>xf t/\lY r
end
theorem ko (t:T):1<=aP t:=by rw [eh];omega
mutual
theorem eu.le {nodes:List Nd}:∀ (t:T) (a:Nat),eu nodes a t->a+aP t<=nodes.length
 | .mk n l,a,h=>by
  rw [eu] at h;have h1:=(List.getElem?_eq_some_iff.1 h.1).1;have:=dy.le l (a+1) h.2.2 h1;rw [aP];omega
theorem dy.le {nodes:List Nd}:∀ (l:List T) (a:Nat),dy nodes a l->a<=nodes.length->a+az l<=nodes.length
 | [],a,h,ha=>by rw [az];exact ha
 | t::r,a,h,ha=>by
  rw [dy] at h;have h1:=eu.le t a h.1;have:=dy.le r _ h.2 h1;rw [az];omega
end
theorem H8 {nodes:List Nd}:∀ (f:Nat),(∀ (a d:Nat) (e:Int),ot nodes f a d=some e->0<=e->∃ t,eu nodes a t/\e=((a+aP t:Nat):Int)) /\
  (∀ (ks:List Int) (next d:Nat) (e:Int),nu nodes f ks (next:Int) d=some e->0<=e->∃ l,dy nodes next l/\ks=bX next l/\e=((next+az l:Nat):Int)):=by
 intro f
 induction f with
 | zero =>
  refine ⟨fun a d e h _=>by simp [ot] at h,fun ks next d e h _=>?_⟩
  cases ks with
  | nil=>rw [nu] at h;cases h;exact ⟨[],trivial,rfl,by simp [az]⟩
  | cons k r=>simp [nu] at h
 | succ f ih =>
  refine ⟨fun a d e h he=>?_,fun ks next d e h he=>?_⟩
  ·rw [ot] at h;split at h
   ·cases h;omega
   ·cases hn:nodes[a]? with
    | none=>rw [hn] at h;cases h
    | some n =>
     rw [hn] at h;simp only at h;rw [show ((a:Int)+1)=((a+1:Nat):Int) by omega] at h;obtain ⟨l,h1,h2,h3⟩:=ih.2 _ _ _ _ h he;exact ⟨.mk n l,by rw [eu];exact ⟨hn,h2,h1⟩,by rw [h3,aP];omega⟩
  ·cases ks with
   | nil=>rw [nu] at h;cases h;exact ⟨[],trivial,rfl,by simp [az]⟩
   | cons k r =>
    rw [nu] at h;split at h
    ·rename_i hk;subst hk;rw [Int.toNat_natCast] at h
     cases hq:ot nodes f next (d+1) with
     | none=>rw [hq] at h;cases h
     | some e1 =>
      rw [hq] at h;simp only at h;split at h
      ·cases h;omega
      ·rename_i h0;obtain ⟨t,h1,h2⟩:=ih.1 _ _ _ hq ao;subst h2;obtain ⟨l,h3,h4,h5⟩:=ih.2 _ _ _ _ h he;refine ⟨t::l,by rw [dy];exact ⟨h1,h3⟩,by rw [bX,<-h4],by rw [h5,az];omega⟩
    ·cases h;omega
theorem vD {nodes:List Nd}:∀ (f:Nat),(∀ (t:T) (a:Nat),eu nodes a t->2 * aP t<=f->sub nodes f a=some t) /\
  (∀ (l:List T) (a:Nat) (acc:List T),dy nodes a l->2 * az l+1<=f->ox nodes f (bX a l) acc=some (acc++l)):=by
 intro f
 induction f with
 | zero =>
  exact ⟨fun t a _ h=>by have:=ko t;omega,fun l a acc _ h=>by omega⟩
 | succ f ih =>
  refine ⟨fun t a hs h=>?_,fun l a acc hs h=>?_⟩
  ·obtain ⟨n,l⟩:=t;rw [eu] at hs;rw [aP] at h;rw [sub,hs.1];simp only;rw [hs.2.1,ih.2 l (a+1) [] hs.2.2 ao];rfl
  ·cases l with
   | nil=>rw [bX,ox];simp
   | cons t l =>
    rw [dy] at hs;rw [az] at h;have:=ko t;rw [bX,ox,if_neg ao,Int.toNat_natCast,ih.1 t a hs.1 ao];simp only;rw [ih.2 l _ _ hs.2 ao];simp
theorem V5 {nodes:List Nd}:∀ (f:Nat) (t:T) (a:Nat),eu nodes a t->xf t->aP t<=f->oo nodes f a=some (t,a+aP t):=by
 intro f
 induction f with
 | zero=>intro t a _ _ h;have:=ko t;omega
 | succ f ih =>
  intro t a hs ha h;obtain ⟨n,l⟩:=t
  have key:∀ (l:List T) (a:Nat) (acc:List T),dy nodes a l->lY l->az l<=f->qh (oo nodes f) (bX a l) a acc=some (acc++l,a+az l):=by
   intro l
   induction l with
   | nil=>intro a acc _ _ _;rw [bX,qh,az];simp
   | cons t l ih2 =>
    intro a acc hs ha h;rw [dy] at hs;rw [lY] at ha;rw [az] at h;rw [bX,qh,if_pos rfl,ih t a hs.1 ha.1 ao];simp only;rw [ih2 _ _ hs.2 ha.2 ao,az];simp [Nat.add_assoc]
  rw [eu] at hs;rw [xf] at ha;rw [aP] at h;rw [oo,hs.1];simp only;rw [hs.2.1,key l (a+1) [] hs.2.2 ha.2 ao];simp only;rw [if_neg ao,aP];simp only [nil_append,Option.some.injEq,Prod.mk.injEq,true_and];omega
theorem VW {nodes:List Nd}:∀ (f:Nat) (t:T) (a e:Nat),oo nodes f a=some (t,e)->eu nodes a t/\e=a+aP t/\xf t:=by
 intro f
 induction f with
 | zero=>intro t a e h;cases h
 | succ f ih =>
  intro t a e h
  have key:∀ (ks:List Int) (next:Nat) (acc l:List T) (e:Nat),qh (oo nodes f) ks next acc=some (l,e)->∃ l',l=acc++l'/\dy nodes next l'/\ks=bX next l'/\e=next+az l'/\lY l':=by
   intro ks
   induction ks with
   | nil=>intro next acc l e h;rw [qh] at h;cases h;exact ⟨[],by simp,trivial,rfl,by simp [az],trivial⟩
   | cons k r ih2 =>
    intro next acc l e h
    rw [qh] at h;split at h
    ·rename_i hk
     cases hq:oo nodes f next with
     | none=>rw [hq] at h;cases h
     | some x =>
      obtain ⟨t,e1⟩:=x;rw [hq] at h;simp only at h;obtain ⟨a1,a2,a3⟩:=ih _ _ _ hq;subst a2;obtain ⟨l',b1,b2,b3,b4,b5⟩:=ih2 _ _ _ _ h;exact ⟨t::l',by rw [b1];simp,by rw [dy];exact ⟨a1,b2⟩,by rw [bX,hk,b3],by rw [b4,az];omega,by rw [lY];exact ⟨a3,b5⟩⟩
    ·cases h
  rw [oo] at h
  cases hn:nodes[a]? with
  | none=>rw [hn] at h;cases h
  | some n =>
   rw [hn] at h;simp only at h
   cases hk:qh (oo nodes f) n.kids (a+1) [] with
   | none=>rw [hk] at h;cases h
   | some x =>
    obtain ⟨l,e1⟩:=x;rw [hk] at h;simp only at h;split at h
    ·cases h
    ·rename_i h0;cases h;obtain ⟨l',b1,b2,b3,b4,b5⟩:=key _ _ _ _ _ hk
     have:l'=l:=by rw [b1];rfl
     subst this;exact ⟨by rw [eu];exact ⟨hn,b3,b2⟩,by rw [b4,aP];omega,by rw [xf];exact ⟨by omega,b5⟩⟩
theorem Sv {nodes:List Nd} (hl:nodes.length<=800):∀ (f:Nat),(∀ (t:T) (a d:Nat),eu nodes a t->d<=a->2 * aP t<=f->ot nodes f a d=some ((a+aP t:Nat):Int)) /\
  (∀ (l:List T) (a d:Nat),dy nodes a l->d < a->2 * az l+1<=f->nu nodes f (bX a l) (a:Int) d=some ((a+az l:Nat):Int)):=by
 intro f
 induction f with
 | zero =>
  exact ⟨fun t a d _ _ h=>by have:=ko t;omega,fun l a d _ _ h=>by omega⟩
 | succ f ih =>
  refine ⟨fun t a d hs hd h=>?_,fun l a d hs hd h=>?_⟩
  ·obtain ⟨n,l⟩:=t;rw [eu] at hs;rw [aP] at h |-;have ak:=(List.getElem?_eq_some_iff.1 hs.1).1;rw [ot,if_neg ao,hs.1];simp only;rw [show ((a:Int)+1)=((a+1:Nat):Int) by omega,hs.2.1,ih.2 l (a+1) d hs.2.2 ao ao]
   congr 1;omega
  ·cases l with
   | nil=>rw [bX,nu,az];simp
   | cons t l =>
    rw [dy] at hs;rw [az] at h |-;have:=ko t;rw [bX,nu,if_pos rfl,Int.toNat_natCast,ih.1 t a (d+1) hs.1 ao ao];simp only;rw [if_neg ao,ih.2 l _ d hs.2 ao ao]
    congr 1;omega
theorem Mf {nodes:List Nd}:∀ (f:Nat),(∀ (a d:Nat),2 * (nodes.length - a)+1<=f->∃ e,ot nodes f a d=some e/\(0<=e->(a:Int) < e/\a < nodes.length)) /\
  (∀ (ks:List Int) (next d:Nat),2 * (nodes.length - next)+2<=f->∃ e,nu nodes f ks (next:Int) d=some e/\(0<=e->(next:Int)<=e)):=by
 intro f
 induction f with
 | zero=>exact ⟨fun a d h=>by omega,fun ks next d h=>by omega⟩
 | succ f ih =>
  refine ⟨fun a d h=>?_,fun ks next d h=>?_⟩
  ·rw [ot];split
   ·exact ⟨-1,rfl,fun h=>by omega⟩
   ·rename_i hc
    cases hn:nodes[a]? with
    | none=>rw [List.getElem?_eq_none_iff] at hn;omega
    | some n =>
     simp only;rw [show ((a:Int)+1)=((a+1:Nat):Int) by omega];obtain ⟨e,h1,h2⟩:=ih.2 n.kids (a+1) d ao;exact ⟨e,h1,fun h=>⟨by have:=h2 h;omega,by omega⟩⟩
  ·cases ks with
   | nil=>rw [nu];exact ⟨_,rfl,fun _=>Int.le_refl _⟩
   | cons k r =>
    rw [nu];split
    ·rename_i hk;subst hk;rw [Int.toNat_natCast]
     obtain ⟨e,h1,h2⟩:=ih.1 next (d+1) ao
     rw [h1];simp only;split
     ·exact ⟨-1,rfl,fun h=>by omega⟩
     ·rename_i h0;have h3:=h2 ao;obtain ⟨m,rfl⟩:∃ m:Nat,e=(m:Int):=⟨e.toNat,by omega⟩;obtain ⟨e',h4,h5⟩:=ih.2 r m d ao;exact ⟨e',h4,fun h=>by have:=h5 h;omega⟩
    ·exact ⟨-1,rfl,fun h=>by omega⟩
def fx (Q:Fn->T->Prop):List Fn->Nat->List T->Prop
 | [],_,[]=>True
 | f::r,a,t::l=>f.body=(a:Int)/\Q f t/\fx Q r (a+aP t) l
 | _,_,_=>False
theorem fx.len {Q:Fn->T->Prop}:∀ {fns:List Fn} {a:Nat} {l:List T},fx Q fns a l->fns.length=l.length
 | [],_,[],_=>rfl
 | f::r,a,t::l,h=>by rw [fx] at h;rw [length_cons,length_cons,fx.len h.2.2]
 | [],_,t::l,h=>by cases h
 | f::r,_,[],h=>by cases h
theorem fx.mono {Q R:Fn->T->Prop}:∀ {fns:List Fn} {a:Nat} {l:List T},fx Q fns a l->(∀ f t,f∈fns->t∈l->Q f t->R f t)->fx R fns a l
 | [],_,[],_,_=>trivial
 | f::r,a,t::l,h,hq=>by
  rw [fx] at h |-;exact ⟨h.1,hq _ _ mem_cons_self mem_cons_self h.2.1,fx.mono h.2.2 fun f t hf ht=>hq f t (mem_cons_of_mem _ hf) (mem_cons_of_mem _ ht)⟩
 | [],_,t::l,h,_=>by cases h
 | f::r,_,[],h,_=>by cases h
theorem fx.at_ {Q:Fn->T->Prop}:∀ {fns:List Fn} {a:Nat} {l:List T},fx Q fns a l->∀ (i:Nat) f t,fns[i]?=some f->l[i]?=some t->f.body=((a+az (l.take i):Nat):Int)/\Q f t
 | [],_,[],_,i,f,t,h1,h2=>by simp at h1
 | f::r,a,t::l,h,i,f',t',h1,h2=>by
  rw [fx] at h
  cases i with
  | zero=>cases h1;cases h2;rw [take_zero,az];exact ⟨h.1,h.2.1⟩
  | succ i =>
   obtain ⟨k1,k2⟩:=fx.at_ h.2.2 i f' t' (by simpa using h1) (by simpa using h2);exact ⟨by rw [k1,take_succ_cons,az];omega,k2⟩
 | [],_,t::l,h,_,_,_,_,_=>by cases h
 | f::r,_,[],h,_,_,_,_,_=>by cases h
structure OV (f:Fn) (t:T):Prop where
 name:bp f.name=true
 params:cx f.params=true
 kind:t.n.kind=14
 all:c8 t=true
theorem ze {nodes:List Nd}:∀ (fns:List Fn) (next:Nat) (e:Int),fR nodes fns (next:Int)=some (some e)->∃ l,dy nodes next l/\fx OV fns next l/\e=((next+az l:Nat):Int)
 | [],next,e,h=>by rw [fR] at h;cases h;exact ⟨[],trivial,trivial,by simp [az]⟩
 | f::r,next,e,h=>by
  rw [fR,Int.toNat_natCast] at h
  cases hn:ot nodes (fN nodes) next 0 with
  | none=>rw [hn] at h;cases h
  | some e1 =>
   rw [hn] at h;simp only at h;split at h
   ·cases h
   ·rename_i hc;split at h
    ·cases h
    ·rename_i hp;obtain ⟨t,h1,h2⟩:=(H8 _).1 _ _ _ hn ao;have hle:=eu.le t _ h1;rw [(vD _).1 t next h1 (by unfold fN;omega)] at h;simp only at h;split at h
     ·cases h
     ·rename_i hk;subst h2;obtain ⟨l,k1,k2,k3⟩:=ze r _ e h;refine ⟨t::l,by rw [dy];exact ⟨h1,k1⟩,?_,by rw [k3,az];omega⟩;rw [fx];refine ⟨by omega,⟨?_,?_,?_,?_⟩,k2⟩
      ·cases hq:bp f.name with
       | true=>rfl
       | false=>exact absurd (.inr (.inl hq)) hc
      ·simpa using hp
      ·exact Decidable.byContradiction fun hq=>hk (.inl hq)
      ·cases hq:c8 t with
       | true=>rfl
       | false=>exact absurd (.inr hq) hk
theorem zd {nodes:List Nd} (hl:nodes.length<=800):∀ (fns:List Fn) (next:Nat) (l:List T),dy nodes next l->fx OV fns next l->fR nodes fns (next:Int)=some (some ((next+az l:Nat):Int))
 | [],next,[],_,_=>by rw [fR,az];rfl
 | f::r,next,t::l,h,hf=>by
  rw [dy] at h;rw [fx] at hf;have hle:=eu.le t _ h.1;rw [fR,Int.toNat_natCast,(Sv hl _).1 t next 0 h.1 (Nat.zero_le _) (by unfold fN;omega)];simp only;rw [if_neg (by rw [hf.2.1.name];rintro (h | h | h);exact h hf.1;cases h;omega),if_neg (by rw [hf.2.1.params];decide),(vD _).1 t next h.1 (by unfold fN;omega)];simp only;rw [if_neg (by rw [hf.2.1.all];rintro (h | h);exact h hf.2.1.kind;cases h),zd hl r _ l h.2 hf.2.2,az]
  congr 2;omega
 | [],_,t::l,_,h=>by cases h
 | f::r,_,[],_,h=>by cases h
theorem wR {nodes:List Nd}:∀ (fns:List Fn) (next:Nat),∃ r,fR nodes fns (next:Int)=some r
 | [],next=>⟨_,by rw [fR]⟩
 | f::r,next=>by
  obtain ⟨e,h1,h2⟩:=(Mf (nodes:=nodes) (fN nodes)).1 next 0 (by unfold fN;omega)
  rw [fR,Int.toNat_natCast,h1];simp only;split
  ·exact ⟨_,rfl⟩
  ·rename_i hc;split
   ·exact ⟨_,rfl⟩
   ·obtain ⟨t,k1,k2⟩:=(H8 _).1 _ _ _ h1 ao;have hle:=eu.le t _ k1;rw [(vD _).1 t next k1 (by unfold fN;omega)];simp only;split
    ·exact ⟨_,rfl⟩
    ·rw [k2];exact wR r _
theorem Ld (p:Src):∃ b,nZ p=some b:=by
 unfold nZ;split
 ·exact ⟨_,rfl⟩
 ·split
  ·exact ⟨_,rfl⟩
  ·obtain ⟨r,h⟩:=wR (nodes:=p.nodes) p.fns 0;rw [show ((0:Nat):Int)=0 from rfl] at h;rw [h]
   cases r <;> exact ⟨_,rfl⟩
structure fK (p:Src) (l:List T):Prop where
 globals:cx p.globals=true
 arrays:p.arrays.all oq=true
 st:dy p.nodes 0 l
 fns:fx OV p.fns 0 l
 len:az l=p.nodes.length
 few:p.nodes.length<=800
theorem Tp {p:Src} (h:nZ p=some true):∃ l,fK p l:=by
 unfold nZ at h;split at h
 ·cases h
 ·rename_i h1;split at h
  ·cases h
  ·rename_i h2;rw [show (0:Int)=((0:Nat):Int) from rfl] at h
   cases hf:fR p.nodes p.fns ((0:Nat):Int) with
   | none=>rw [hf] at h;cases h
   | some r =>
    rw [hf] at h
    cases r with
    | none=>cases h
    | some e =>
     obtain ⟨l,k1,k2,k3⟩:=ze _ _ _ hf;simp only [Option.some.injEq,Bool.and_eq_true,beq_iff_eq,decide_eq_true_eq] at h;exact ⟨l,by simpa using h1,by simpa using h2,k1,k2,by omega,by omega⟩
theorem fK.nZ {p:Src} {l:List T} (h:fK p l):nZ p=some true:=by
 unfold Go.Sp.nZ;rw [if_neg (by rw [h.globals];decide),if_neg (by rw [h.arrays];decide),show (0:Int)=((0:Nat):Int) from rfl,zd h.few _ _ _ h.st h.fns];simp only [Option.some.injEq,Bool.and_eq_true,beq_iff_eq,decide_eq_true_eq];have:=h.len;have:=h.few;omega
theorem BU {nodes:List Nd}:∀ (fns:List Fn) (next:Nat) (acc l:List T) (e:Nat),jj nodes fns next acc=some (l,e)->∃ l',l=acc++l'/\dy nodes next l'/\fx (fun _ _=>True) fns next l'/\e=next+az l'/\lY l'
 | [],next,acc,l,e,h=>by rw [jj] at h;cases h;exact ⟨[],by simp,trivial,trivial,by simp [az],trivial⟩
 | f::r,next,acc,l,e,h=>by
  rw [jj] at h
  cases hq:tr nodes next with
  | none=>rw [hq] at h;cases h
  | some x =>
   obtain ⟨t,e1⟩:=x;rw [hq] at h;simp only at h;split at h
   ·rename_i hb;obtain ⟨a1,a2,a3⟩:=VW _ _ _ _ hq;subst a2;obtain ⟨l',b1,b2,b3,b4,b5⟩:=BU r _ _ _ _ h;exact ⟨t::l',by rw [b1];simp,by rw [dy];exact ⟨a1,b2⟩,by rw [fx];exact ⟨hb,trivial,b3⟩,by rw [b4,az];omega,by rw [lY];exact ⟨a3,b5⟩⟩
   ·cases h
theorem HX {nodes:List Nd} {Q:Fn->T->Prop}:∀ (fns:List Fn) (next:Nat) (acc l:List T),dy nodes next l->fx Q fns next l->lY l->jj nodes fns next acc=some (acc++l,next+az l)
 | [],next,acc,[],_,_,_=>by rw [jj,az];simp
 | f::r,next,acc,t::l,h,hf,ha=>by
  rw [dy] at h;rw [fx] at hf;rw [lY] at ha;have hle:=eu.le t _ h.1;rw [jj,tr,V5 _ t next h.1 ha.1 ao];simp only;rw [if_pos hf.1,HX r _ _ l h.2 hf.2.2 ha.2,az];simp [Nat.add_assoc]
 | [],_,_,t::l,_,h,_=>by cases h
 | f::r,_,_,[],_,h,_=>by cases h
mutual
theorem eu.fl {nodes:List Nd}:∀ (t:T) (a:Nat),eu nodes a t->(nodes.take (a+aP t)).drop a=lO a t
 | .mk n l,a,h=>by
  have hle:=eu.le _ _ h;rw [eu] at h;rw [aP] at hle;have h1:=dy.fl l (a+1) h.2.2 (by have:=(List.getElem?_eq_some_iff.1 h.1).1;omega);rw [lO,<-h.2.1,<-h1,aP,show a+(az l+1)=a+1+az l by omega]
  have h2:(nodes.take (a+1+az l))[a]?=some n:=by rw [getElem?_take,if_pos ao];exact h.1
  obtain ⟨h3,h4⟩:=List.getElem?_eq_some_iff.1 h2;rw [List.drop_eq_getElem_cons h3,h4]
theorem dy.fl {nodes:List Nd}:∀ (l:List T) (a:Nat),dy nodes a l->a<=nodes.length->(nodes.take (a+az l)).drop a=ef a l
 | [],a,h,ha=>by
  rw [ef];exact eq_nil_of_length_eq_zero (by rw [az,length_drop,length_take];omega)
 | t::r,a,h,ha=>by
  rw [dy] at h;have hle:=eu.le _ _ h.1;have h1:=eu.fl t a h.1;have h2:=dy.fl r (a+aP t) h.2 hle;have zY:=dy.le r _ h.2 hle;rw [ef,<-h1,<-h2,az,show a+(aP t+az r)=a+aP t+az r by omega]
  have h3:nodes.take (a+aP t)=(nodes.take (a+aP t+az r)).take (a+aP t):=by rw [List.take_take,Nat.min_eq_left ao]
  rw [h3];generalize hm:nodes.take (a+aP t+az r)=m
  have dK:m.length=a+aP t+az r:=by rw [<-hm,length_take];omega
  rw [<-List.drop_append_of_le_length (by rw [length_take];omega),take_append_drop]
end
theorem dy.all {nodes:List Nd} {l:List T} (h:dy nodes 0 l) (hl:az l=nodes.length):nodes=ef 0 l:=by
 have:=dy.fl l 0 h (Nat.zero_le _);rw [Nat.zero_add,hl,List.take_length,List.drop_zero] at this;exact this
def nX (n:Int):ah:=if n < 0 then 45::cD n.natAbs else cD n.toNat
def rL (s:ah):Int:=match levels.findIdx? (fun l=>l.contains s) with | some i=>(i:Int) | none => -1
def tO (b:Bool) (x:ah):ah:=if b=true then (40::x)++[41] else x
def lk (t:T) (least:Int):Bool:=(t.n.kind==6)&&decide (rL t.n.s < least)
def tG (n:Nd) (l:List T) (x:List ah):ah :=
 if n.kind=1 then nX n.n
 else if n.kind=3 then ((n.s++[91])++x.getD 0 [])++[93]
 else if n.kind=4 then ((n.s++[40])++bC x)++[41]
 else if n.kind=5 then (n.s++[32])++(match l with | a::_=>tO (a.n.kind==6) (x.getD 0 []) | []=>[])
 else if n.kind=6 then (match l with
  | a::b::_=>(((tO (lk a (rL n.s)) (x.getD 0 [])++[32])++n.s)++[32])++tO (lk b (rL n.s+1)) (x.getD 1 [])
  | _=>[])
 else n.s
mutual
def cQ:T->ah
 | .mk n l=>tG n l (fB l)
def fB:List T->List ah
 | []=>[]
 | t::r=>cQ t::fB r
end
theorem Og (t:T):cQ t=tG t.n t.kids (fB t.kids):=by cases t;rw [cQ];rfl
theorem CE (l:List T):fB l=l.map cQ:=by
 induction l with
 | nil=>rfl
 | cons t l ih=>rw [fB,ih];rfl
mutual
def jF:T->Nat
 | .mk n l=>n.s.length+60+fO l
def fO:List T->Nat
 | []=>0
 | t::r=>jF t+fO r
end
theorem oQ (t:T):jF t=t.n.s.length+60+fO t.kids:=by cases t;rw [jF];rfl
theorem tI {l:List T} {t:T} (h:t∈l):jF t<=fO l:=by
 induction l with
 | nil=>cases h
 | cons a l ih =>
  rw [fO]
  rcases List.mem_cons.1 h with rfl | h
  ·omega
  ·have:=ih h;omega
theorem P2 (l:List T):l.length * 60<=fO l:=by
 induction l with
 | nil=>simp
 | cons t l ih=>rw [fO,oQ,length_cons];omega
theorem CY {n:Nat} (h:n < 100000000000000000000):(cD n).length<=20:=H4 19 n (by simpa using h)
theorem xR {n:Int} (h : -9223372036854775808<=n/\n<=9223372036854775807):(nX n).length<=21:=by
 unfold nX;split
 ·have:=CY (n:=n.natAbs) ao;simp only [length_cons];omega
 ·have:=CY (n:=n.toNat) ao;omega
theorem ym (b:Bool) (x:ah):(tO b x).length<=x.length+2:=by
 unfold tO;split <;> simp
theorem ET:∀ (r:List ah),(r.flatMap fun y=>44::32::y).length=(r.map fun y=>y.length+2).sum
 | []=>rfl
 | z::r=>by
  have:=ET r;simp only [flatMap_cons,length_append,List.map_cons,sum_cons,length_cons] at this |-;omega
theorem Ae:∀ (x:List ah),(bC x).length<=(x.map fun y=>y.length+2).sum
 | []=>by simp [bC]
 | y::r=>by
  have h:=ET r;rw [List.map_cons,sum_cons,bC,length_append,h];omega
mutual
def o0:T->Prop
 | .mk n l=>(-9223372036854775808<=n.n/\n.n<=9223372036854775807)/\p7 l
def p7:List T->Prop
 | []=>True
 | t::r=>o0 t/\p7 r
end
theorem qR (t:T):o0 t↔(-9223372036854775808<=t.n.n/\t.n.n<=9223372036854775807)/\p7 t.kids:=by cases t;rw [o0];exact Iff.rfl
theorem jE {l:List T} {t:T} (h:p7 l) (ht:t∈l):o0 t:=by
 induction l with
 | nil=>cases ht
 | cons a l ih =>
  rw [p7] at h
  rcases List.mem_cons.1 ht with rfl | ht
  ·exact h.1
  ·exact ih h.2 ht
theorem vG:∀ (N:Nat) (t:T),aP t<=N->o0 t->(cQ t).length+4<=jF t:=by
 intro N
 induction N with
 | zero=>intro t h;rw [eh] at h;omega
 | succ N ih =>
  intro t hN hn;rw [eh] at hN;rw [qR] at hn
  have hk:∀ a∈t.kids,(cQ a).length+4<=jF a:=fun a ha=>by
   refine ih a ?_ (jE hn.2 ha)
   have:∀ (l:List T),a∈l->aP a<=az l:=by
    intro l
    induction l with
    | nil=>intro h;cases h
    | cons b l ih2 =>
     intro h;rw [az]
     rcases List.mem_cons.1 h with rfl | h
     ·omega
     ·have:=ih2 h;omega
   have:=this _ ha;omega
  have U8:((fB t.kids).map fun y=>y.length+2).sum<=fO t.kids:=by
   have:∀ (l:List T),(∀ a∈l,(cQ a).length+4<=jF a)->((fB l).map fun y=>y.length+2).sum<=fO l:=by
    intro l
    induction l with
    | nil=>intro _;simp [fB]
    | cons a l ih2 =>
     intro h;have h1:=h a (mem_cons_self)
     have h2:=ih2 fun b hb=>h b (mem_cons_of_mem _ hb)
     rw [fB,fO,List.map_cons,sum_cons];omega
   exact this _ hk
  have h0:((fB t.kids).getD 0 []).length<=fO t.kids:=by
   cases hl:t.kids with
   | nil=>simp [fB]
   | cons a r =>
    have:=hk a (by rw [hl];exact mem_cons_self);rw [fB,fO];simp;omega
  have h01:∀ a b r,t.kids=a::b::r->((fB t.kids).getD 0 []).length+((fB t.kids).getD 1 []).length+8<=fO t.kids:=fun a b r hl=>by
   have h1:=hk a (by rw [hl];exact mem_cons_self);have h2:=hk b (by rw [hl];exact mem_cons_of_mem _ mem_cons_self);rw [hl,fB,fB,fO,fO];simp;omega
  rw [Og,oQ];unfold tG;split
  ·have:=xR hn.1;omega
  ·split
   ·simp only [length_append,length_cons,length_nil];omega
   ·split
    ·have:=Ae (fB t.kids);simp only [length_append,length_cons,length_nil];omega
    ·split
     ·cases hl:t.kids with
      | nil=>simp <;> omega
      | cons a r =>
       simp only [length_append,length_cons,length_nil];have:=ym (a.n.kind==6) ((fB (a::r)).getD 0 []);rw [hl] at h0;omega
     ·split
      ·match hl:t.kids with
       | []=>simp <;> omega
       | [a]=>simp <;> omega
       | a::b::r =>
        have h1:=h01 a b r hl;rw [hl] at h1;have h2:=ym (lk a (rL t.n.s)) ((fB (a::b::r)).getD 0 []);have h3:=ym (lk b (rL t.n.s+1)) ((fB (a::b::r)).getD 1 []);simp only [length_append,length_cons,length_nil];omega
      ·omega
def xc (own:ah) (n:Nd) (k:Nat) (x b:List ah):ah :=
 if n.kind=13 then ((([118,97,114,32]++n.s)++[32,61,32])++x.getD 0 [])++[59]
 else if n.kind=7 then ((n.s++[32,61,32])++x.getD 0 [])++[59]
 else if n.kind=8 then ((((n.s++[91])++x.getD 0 [])++[93,32,61,32])++x.getD 1 [])++[59]
 else if n.kind=9 then (if k=3 then ((([105,102,32,40]++x.getD 0 [])++[41,32])++b.getD 1 [])++([32,101,108,115,101,32]++b.getD 2 []) else (([105,102,32,40]++x.getD 0 [])++[41,32])++b.getD 1 [])
 else if n.kind=10 then (([119,104,105,108,101,32,40]++x.getD 0 [])++[41,32])++b.getD 1 []
 else if n.kind=11 then ([114,101,116,117,114,110,32]++x.getD 0 [])++[59]
 else if n.kind=12 then x.getD 0 []++[59]
 else own
section
variable (tx:T->ah) (inl:List ah->Nat->ah)
mutual
def jV:Nat->T->ah
 | d,.mk n l=>xc (tx (.mk n l)) n l.length (l.map tx) (pL d l)
def pL:Nat->List T->List ah
 | _,[]=>[]
 | d,t::r=>nb d t::pL d r
def nb:Nat->T->ah
 | d,.mk n l=>inl (xb (d+1) l) d
def xb:Nat->List T->List ah
 | _,[]=>[]
 | d,t::r=>jV d t::xb d r
end
end
theorem N9 (tx:T->ah) (inl:List ah->Nat->ah) (d:Nat) (t:T):jV tx inl d t=xc (tx t) t.n t.kids.length (t.kids.map tx) (pL tx inl d t.kids):=by cases t;rw [jV];rfl
theorem LR (tx:T->ah) (inl:List ah->Nat->ah) (d:Nat) (t:T):nb tx inl d t=inl (xb tx inl (d+1) t.kids) d:=by cases t;rw [nb];rfl
theorem HV (tx:T->ah) (inl:List ah->Nat->ah) (d:Nat) (l:List T):pL tx inl d l=l.map (nb tx inl d):=by
 induction l with
 | nil=>rfl
 | cons t l ih=>rw [pL,ih];rfl
theorem Jh (tx:T->ah) (inl:List ah->Nat->ah) (d:Nat) (l:List T):xb tx inl d l=l.map (jV tx inl d):=by
 induction l with
 | nil=>rfl
 | cons t l ih=>rw [xb,ih];rfl
def rU (acc:ah) (l:List ah):ah:=l.foldl (fun acc s=>acc++(s++[32])) acc
def fu (l:List ah) (d:Nat):ah:=rU [123,32] l++[125]
def ki:List ah->Nat
 | []=>0
 | s::l=>s.length+1+ki l
theorem sO (l:List ah):∀ acc,(rU acc l).length=acc.length+ki l:=by
 induction l with
 | nil=>intro acc;simp [rU,ki]
 | cons s l ih =>
  intro acc;have:=ih (acc++(s++[32]));simp only [rU,foldl_cons,ki,length_append,length_cons,length_nil] at this |-;omega
theorem Gw (a b:List ah):ki (a++b)=ki a+ki b:=by
 induction a with
 | nil=>simp [ki]
 | cons s a ih=>simp only [cons_append,ki,ih];omega
theorem Oc (l:List ah) (k:Nat):ki (l.take k)<=ki l:=by
 have:ki l=ki (l.take k)+ki (l.drop k):=by rw [<-Gw,take_append_drop]
 omega
theorem LX (acc:ah) (l:List ah) (s:ah):rU acc (l++[s])=rU acc l++(s++[32]):=by simp [rU]
theorem Tr {l:List ah} {s:ah} (h:s∈l):s.length<=ki l:=by
 induction l with
 | nil=>cases h
 | cons a l ih =>
  rw [ki]
  rcases List.mem_cons.1 h with rfl | h
  ·omega
  ·have:=ih h;omega
theorem PG {l:List ah} {d:Nat} {s:ah} (h:s∈l):s.length<=(fu l d).length:=by
 have h1:=Tr h;have h2:=sO l [123,32];unfold fu;rw [length_append,h2];omega
def g1 (s:ah):ah:=([105,110,116,32]++s)++[59,10]
def a1 (a:Ar):ah:=((([105,110,116,32]++a.name)++[91])++nX a.size)++[93,59,10]
def f1 (tx:T->ah) (inl:List ah->Nat->ah) (x:Fn × T):ah:=((((([102,117,110,99,32]++x.1.name)++[40])++bC x.1.params)++[41,32])++nb tx inl 0 x.2)++[10]
def dj {α:Type} (f:α->ah):ah->List α->ah
 | acc,[]=>acc
 | acc,x::l=>dj f (acc++f x) l
theorem xh {α:Type} (f:α->ah) (l:List α) (x:α):∀ acc,dj f acc (l++[x])=dj f acc l++f x:=by
 induction l with
 | nil=>intro acc;rfl
 | cons y l ih=>intro acc;simp only [cons_append,dj];exact ih _
theorem O4 {α:Type} (f:α->ah) (l k:List α):∀ acc,dj f acc (l++k)=dj f (dj f acc l) k:=by
 induction l with
 | nil=>intro acc;rfl
 | cons y l ih=>intro acc;simp only [cons_append,dj];exact ih _
theorem BW {α:Type} (f:α->ah) (l:List α):∀ acc,acc.length<=(dj f acc l).length:=by
 induction l with
 | nil=>intro acc;exact Nat.le_refl _
 | cons y l ih=>intro acc;have:=ih (acc++f y);rw [dj];rw [length_append] at this;omega
theorem xi {α:Type} (f:α->ah) (l:List α) (k:Nat) (acc:ah):(dj f acc (l.take k)).length<=(dj f acc l).length:=by
 have:dj f acc l=dj f (dj f acc (l.take k)) (l.drop k):=by rw [<-O4,take_append_drop]
 rw [this];exact BW f _ _
def mW (tx:T->ah) (inl:List ah->Nat->ah) (p:Src) (trees:List T):ah:=dj (f1 tx inl) (dj a1 (dj g1 [] p.globals) p.arrays) (p.fns.zip trees)
end Go.Im
namespace Go.Im
def fg {α:Type} (p:α->α->Bool):List α->List α->Bool
 | [],[]=>true
 | a::r,b::s=>p a b&&fg p r s
 | _,_=>false
theorem yt {α:Type} {p:α->α->Bool}:∀ {a b:List α},fg p a b=true->a.length=b.length
 | [],[],_=>rfl
 | a::r,b::s,h=>by rw [fg,Bool.and_eq_true] at h;rw [length_cons,length_cons,yt h.2]
 | [],b::s,h=>by cases h
 | a::r,[],h=>by cases h
theorem rv {α:Type} {p:α->α->Bool} {a b:List α} (h:a.length≠b.length):fg p a b=false:=by
 cases hc:fg p a b with
 | false=>rfl
 | true=>exact absurd (yt hc) h
theorem EM {α:Type} {p:α->α->Bool}:∀ {a b:List α} {k:Nat} {x y:α},a[k]?=some x->b[k]?=some y->fg p a b=true->p x y=true
 | a::r,b::s,0,x,y,h1,h2,h=>by cases h1;cases h2;rw [fg,Bool.and_eq_true] at h;exact h.1
 | a::r,b::s,k+1,x,y,h1,h2,h=>by rw [fg,Bool.and_eq_true] at h;exact EM (by simpa using h1) (by simpa using h2) h.2
 | [],_,k,x,y,h1,h2,h=>by simp at h1
 | a::r,[],k,x,y,h1,h2,h=>by simp at h2
theorem ry {α:Type} {p:α->α->Bool} {a b:List α} {k:Nat} {x y:α} (h1:a[k]?=some x) (h2:b[k]?=some y) (h:p x y=false):fg p a b=false:=by
 cases hc:fg p a b with
 | false=>rfl
 | true=>have:=EM h1 h2 hc;rw [h] at this;cases this
theorem H9 {α:Type} {p:α->α->Bool}:∀ {a b:List α},a.length=b.length->(∀ (k:Nat) x y,a[k]?=some x->b[k]?=some y->p x y=true)->fg p a b=true
 | [],[],_,_=>rfl
 | a::r,b::s,hl,h=>by
  rw [fg,h 0 a b rfl rfl,H9 (by simpa using hl) fun k x y h1 h2=>h (k+1) x y (by simpa using h1) (by simpa using h2)];rfl
 | [],b::s,hl,h=>by simp at hl
 | a::r,[],hl,h=>by simp at hl
def sR {α:Type} (p:α->α->Bool) (a b:List α) (k:Nat):Prop:=∀ j x y,j < k->a[j]?=some x->b[j]?=some y->p x y=true
theorem lN {α:Type} {p:α->α->Bool} {a b:List α} {k:Nat} {x y:α} (h1:a[k]?=some x) (h2:b[k]?=some y) (h:sR p a b k) (hp:p x y=true):sR p a b (k+1):=fun j u v hj h3 h4=>by
 by_cases he:j=k
 ·subst he;rw [h1] at h3;rw [h2] at h4;cases h3;cases h4;exact hp
 ·exact h j u v ao h3 h4
theorem nw {α:Type} {p:α->α->Bool} {a b:List α} (hl:a.length=b.length) (h:sR p a b a.length):fg p a b=true :=
 H9 hl fun k x y h1 h2=>h k x y (List.getElem?_eq_some_iff.1 h1).1 h1 h2
def rj (a b:Go.Sp.Fn):Bool:=((a.name==b.name)&&fg (fun x y=>x==y) a.params b.params)&&(a.body==b.body)
def kF (a b:Go.Xp.Nd):Bool:=(((a.kind==b.kind)&&(a.n==b.n))&&(a.s==b.s))&&fg (fun x y=>x==y) a.kids b.kids
def za (x y:Go.Xp.Ar):Bool:=(x.name==y.name)&&(x.size==y.size)
open Go.Xp Go.Sp
theorem Ie (l:List T):(aM l).length=l.length:=by rw [sx,length_map]
theorem xn (t:T):(er t).n=⟨t.n.kind,0,t.n.n,t.n.s,[]⟩:=by cases t;rw [er];rfl
theorem Sy (t:T):(er t).kids=aM t.kids:=by cases t;rw [er];rfl
mutual
theorem vF:∀ t:T,aP (er t)=aP t
 | .mk n l=>by rw [er,aP,aP,vE l]
theorem vE:∀ l:List T,az (aM l)=az l
 | []=>by rw [aM]
 | t::r=>by rw [aM,az,az,vF t,vE r]
end
theorem Dp (m:Nat):∀ (l:List T) (i:Nat),bj m i (aM l)=bj m i l
 | [],i=>by rw [aM]
 | t::r,i=>by rw [aM,bj,bj,Dp m r (i+1),xn]
theorem DP:∀ (l:List T),(aM l).all (fun x=>fZ x.n.kind)=l.all (fun x=>fZ x.n.kind)
 | []=>by rw [aM]
 | t::r=>by rw [aM,all_cons,all_cons,DP r,xn]
theorem VH (n:Nd) (k:Nat) (kd:Nat->Bool) (bl:Bool) (h:0<=n.at_) (h':own ⟨n.kind,0,n.n,n.s,[]⟩ k kd bl=true):own n k kd bl=true:=by
 unfold own at h' |-;rw [if_neg (by simp)] at h';rw [if_neg (by simpa using h)];exact h'
mutual
theorem LM:∀ t:T,c8 (er t)=true->xf t->c8 t=true
 | .mk n l,h,ha=>by
  rw [er,c8,Bool.and_eq_true] at h;rw [xf] at ha;rw [c8,Bool.and_eq_true];refine ⟨HT l h.1 ha.2,?_⟩;have h2:own ⟨n.kind,0,n.n,n.s,[]⟩ (aM l).length (fun m=>bj m 0 (aM l)) ((aM l).all fun x=>fZ x.n.kind)=true:=h.2;rw [Ie,DP] at h2;simp only [Dp] at h2;exact VH n _ _ _ ha.1 h2
theorem HT:∀ l:List T,bW (aM l)=true->lY l->bW l=true
 | [],_,_=>rfl
 | t::r,h,ha=>by
  rw [aM,bW,Bool.and_eq_true] at h;rw [lY] at ha;rw [bW,Bool.and_eq_true];exact ⟨LM t h.1 ha.1,HT r h.2 ha.2⟩
end
mutual
theorem LL:∀ t:T,c8 t=true->xf t
 | .mk n l,h=>by
  rw [c8,Bool.and_eq_true] at h;rw [xf];refine ⟨?_,HS l h.1⟩;have h2:own n l.length (fun m=>bj m 0 l) (l.all fun x=>fZ x.n.kind)=true:=h.2
  by_cases h0:n.at_ < 0
  ·unfold own at h2;rw [if_pos (by simpa using h0)] at h2;cases h2
  ·omega
theorem HS:∀ l:List T,bW l=true->lY l
 | [],_=>trivial
 | t::r,h=>by
  rw [bW,Bool.and_eq_true] at h;rw [lY];exact ⟨LL t h.1,HS r h.2⟩
end
theorem ku (a:E):mC a.tree.n.kind=true:=by cases a <;> rfl
mutual
theorem E.fD:∀ a:E,a.ok=true->c8 a.tree=true
 | .num n,h=>by
  simp only [E.ok,Bool.and_eq_true] at h;rw [E.tree,c8,bW];simp [bN,own,T.n,T.kids];exact h
 | .name s,h=>by
  simp only [E.ok] at h;rw [E.tree,c8,bW];simp [bN,own,T.n,T.kids,h]
 | .at_ s a,h=>by
  simp only [E.ok,Bool.and_eq_true] at h;have h2:=E.fD a h.2;have h3:=ku a;rw [E.tree,c8,bW,bW,h2];simp [bN,own,T.n,T.kids,h.1,bj];exact h3
 | .call s l,h=>by
  simp only [E.ok,Bool.and_eq_true] at h;obtain ⟨h2,h3⟩:=E.rP l h.2;rw [E.tree,c8,h2];have:=h3 (E.trees l).length 0 ao;simp [bN,own,T.n,T.kids,h.1,this]
 | .un s a,h=>by
  simp only [E.ok,Bool.and_eq_true] at h;have h2:=E.fD a h.2;have h3:=ku a;rw [E.tree,c8,bW,bW,h2];simp [bN,own,T.n,T.kids,bj];exact ⟨by simpa using h.1,h3⟩
 | .bin s a b,h=>by
  simp only [E.ok,Bool.and_eq_true] at h;have h2:=E.fD a h.1.2;have h3:=ku a;have h4:=E.fD b h.2;have h5:=ku b;rw [E.tree,c8,bW,bW,bW,h2,h4];simp [bN,own,T.n,T.kids,bj,h.1.1];exact ⟨h3,h5⟩
theorem E.rP:∀ l:List E,E.cP l=true->bW (E.trees l)=true/\∀ m i,i+(E.trees l).length<=m->bj m i (E.trees l)=true
 | [],_=>⟨rfl,fun m i _=>rfl⟩
 | a::l,h=>by
  simp only [E.cP,Bool.and_eq_true] at h;obtain ⟨h2,h3⟩:=E.rP l h.2;refine ⟨by rw [E.trees,bW,E.fD a h.1,h2];rfl,fun m i hm=>?_⟩;rw [E.trees,length_cons] at hm;rw [E.trees,bj,if_pos ao,ku a,h3 m (i+1) ao];rfl
end
theorem VN (a:S):fZ a.tree.n.kind=true:=by cases a <;> rfl
mutual
theorem S.fD:∀ a:S,a.ok=true->c8 a.tree=true
 | .set s a,h=>by
  simp only [S.ok,Bool.and_eq_true] at h;have h2:=E.fD a h.2;have h3:=ku a;rw [S.tree,c8,bW,bW,h2];simp [bN,own,T.n,T.kids,h.1,bj];exact h3
 | .var s a,h=>by
  simp only [S.ok,Bool.and_eq_true] at h;have h2:=E.fD a h.2;have h3:=ku a;rw [S.tree,c8,bW,bW,h2];simp [bN,own,T.n,T.kids,h.1,bj];exact h3
 | .ret a,h=>by
  simp only [S.ok] at h;have h2:=E.fD a h;have h3:=ku a;rw [S.tree,c8,bW,bW,h2];simp [bN,own,T.n,T.kids,bj];exact h3
 | .do_ a,h=>by
  simp only [S.ok] at h;have h2:=E.fD a h;have h3:=ku a;rw [S.tree,c8,bW,bW,h2];simp [bN,own,T.n,T.kids,bj];exact h3
 | .put s a b,h=>by
  simp only [S.ok,Bool.and_eq_true] at h;have h2:=E.fD a h.2.1;have h3:=ku a;have h4:=E.fD b h.2.2;have h5:=ku b;rw [S.tree,c8,bW,bW,bW,h2,h4];simp [bN,own,T.n,T.kids,bj,h.1];exact ⟨h3,h5⟩
 | .if1 c b,h=>by
  simp only [S.ok,Bool.and_eq_true] at h;have h2:=E.fD c h.1;have h3:=ku c;have h4:=S.uS b h.2;rw [S.tree,c8,bW,bW,bW,h2,h4];simp [bN,own,T.n,T.kids,bj];exact h3
 | .if2 c b b2,h=>by
  simp only [S.ok,Bool.and_eq_true] at h;have h2:=E.fD c h.1;have h3:=ku c;have h4:=S.uS b h.2.1;have h5:=S.uS b2 h.2.2;rw [S.tree,c8,bW,bW,bW,bW,h2,h4,h5];simp [bN,own,T.n,T.kids,bj];exact h3
 | .while_ c b,h=>by
  simp only [S.ok,Bool.and_eq_true] at h;have h2:=E.fD c h.1;have h3:=ku c;have h4:=S.uS b h.2;rw [S.tree,c8,bW,bW,bW,h2,h4];simp [bN,own,T.n,T.kids,bj];exact h3
theorem S.uS:∀ l:List S,S.cP l=true->c8 (.mk ⟨14,0,0,[],[]⟩ (S.trees l))=true
 | l,h=>by
  obtain ⟨h1,h2⟩:=S.rP l h;have h3:bN (.mk ⟨14,0,0,[],[]⟩ (S.trees l))=own ⟨14,0,0,[],[]⟩ (S.trees l).length (fun m=>bj m 0 (S.trees l)) ((S.trees l).all fun x=>fZ x.n.kind):=rfl;rw [c8,h1,h3,h2];simp [own]
theorem S.rP:∀ l:List S,S.cP l=true->bW (S.trees l)=true/\(S.trees l).all (fun x=>fZ x.n.kind)=true
 | [],_=>⟨rfl,rfl⟩
 | a::l,h=>by
  simp only [S.cP,Bool.and_eq_true] at h;obtain ⟨h1,h2⟩:=S.rP l h.2;exact ⟨by rw [S.trees,bW,S.fD a h.1,h1];rfl,by rw [S.trees,all_cons,h2,VN a];rfl⟩
end
theorem Xm {n:Nd} {k:Nat} {kd:Nat->Bool} {bl:Bool} (h:own n k kd bl=true):cY n.kind k=true:=by
 have hc:n.kind=1\/n.kind=2\/n.kind=3\/n.kind=4\/n.kind=5\/n.kind=6\/n.kind=7\/n.kind=8\/n.kind=9\/n.kind=10\/n.kind=11\/n.kind=12\/n.kind=13\/n.kind=14\/(n.kind < 1\/14 < n.kind):=by omega
 unfold own at h
 by_cases h0:decide (n.at_ < 0)=true
 ·rw [if_pos h0] at h;cases h
 rw [if_neg h0] at h
 by_cases h1:(n.kind != 1&&n.n != 0)=true
 ·rw [if_pos h1] at h;cases h
 rw [if_neg h1] at h;clear h0 h1
 rcases hc with hk | hk | hk | hk | hk | hk | hk | hk | hk | hk | hk | hk | hk | hk | hk
 all_goals (first | (simp [hk] at h;simp [cY,hk];done) | (simp [hk] at h;simp [cY,hk];omega) | (simp [hk] at h;simp [cY,hk,h];done) | skip)
 ·exfalso
  have e1:(n.kind==1)=false:=by simp;omega
  have e2:(n.kind==2)=false:=by simp;omega
  have e3:(n.kind==3)=false:=by simp;omega
  have e4:(n.kind==4)=false:=by simp;omega
  have e5:(n.kind==5)=false:=by simp;omega
  have e6:(n.kind==6)=false:=by simp;omega
  have e7:(n.kind==7)=false:=by simp;omega
  have e8:(n.kind==8)=false:=by simp;omega
  have e9:(n.kind==9)=false:=by simp;omega
  have XE:(n.kind==10)=false:=by simp;omega
  have Z6:(n.kind==11)=false:=by simp;omega
  have Z7:(n.kind==12)=false:=by simp;omega
  have Z8:(n.kind==13)=false:=by simp;omega
  have Z9:(n.kind==14)=false:=by simp;omega
  rw [e1,e2,e3,e4,e5,e6,e7,e8,e9,XE,Z6,Z7,Z8,Z9] at h;simp at h
mutual
theorem QW:∀ t:T,c8 t=true->fQ t=true
 | .mk n l,h=>by
  rw [c8,Bool.and_eq_true] at h;rw [fQ,LO l h.1,Bool.and_true];exact Xm h.2
theorem LO:∀ l:List T,bW l=true->uE l=true
 | [],_=>rfl
 | t::r,h=>by
  rw [bW,Bool.and_eq_true] at h;rw [uE,QW t h.1,LO r h.2];rfl
end
theorem P3 (t:T) (z:Int):lk (er t) z=lk t z:=by unfold lk;rw [xn]
theorem Tw (n:Nd) (l:List T) (x:List ah):tG ⟨n.kind,0,n.n,n.s,[]⟩ (aM l) x=tG n l x:=by
 unfold tG
 match l with
 | []=>rw [aM]
 | [a]=>rw [aM,aM];simp only [xn]
 | a::b::r=>rw [aM,aM];simp only [xn,P3]
mutual
theorem Oh:∀ t:T,cQ (er t)=cQ t
 | .mk n l=>by rw [er,cQ,cQ,CD l,Tw]
theorem CD:∀ l:List T,fB (aM l)=fB l
 | []=>by rw [aM]
 | t::r=>by rw [aM,fB,fB,Oh t,CD r]
end
mutual
theorem VU (inl:List ah->Nat->ah):∀ (t:T) (d:Nat),jV cQ inl d (er t)=jV cQ inl d t
 | .mk n l,d=>by
  have h:=Oh (.mk n l);rw [er] at h |-;rw [jV,jV,h,HU inl l d,Ie]
  have:(aM l).map cQ=l.map cQ:=by rw [<-CE,<-CE,CD]
  rw [this];rfl
theorem HU (inl:List ah->Nat->ah):∀ (l:List T) (d:Nat),pL cQ inl d (aM l)=pL cQ inl d l
 | [],d=>by rw [aM]
 | t::r,d=>by rw [aM,pL,pL,LS inl t d,HU inl r d]
theorem LS (inl:List ah->Nat->ah):∀ (t:T) (d:Nat),nb cQ inl d (er t)=nb cQ inl d t
 | .mk n l,d=>by rw [er,nb,nb,Jg inl l (d+1)]
theorem Jg (inl:List ah->Nat->ah):∀ (l:List T) (d:Nat),xb cQ inl d (aM l)=xb cQ inl d l
 | [],d=>by rw [aM]
 | t::r,d=>by rw [aM,xb,xb,VU inl t d,Jg inl r d]
end
theorem NI {s:ah} (h:eB s=true):rL s=(dO s:Int):=by
 unfold rL dO
 cases hf:levels.findIdx? (fun l=>l.contains s) with
 | some i=>rfl
 | none =>
  rw [List.findIdx?_eq_none_iff] at hf;unfold eB at h;rw [any_eq_true] at h;obtain ⟨l,h1,h2⟩:=h;have:=hf l h1;rw [h2] at this;cases this
theorem IV {a:E} (h:a.ok=true) (k:Nat) (hk:k<=9):lk a.tree (k:Int)=decide (a.lv < k):=by
 have key:∀ b:Bool,(false&&b)=decide (9 < k):=fun b=>by rw [Bool.false_and,decide_eq_false ao]
 cases a with
 | bin s x y =>
  simp only [E.ok,Bool.and_eq_true] at h;show (true&&decide (rL s < (k:Int)))=decide (dO s < k);rw [NI h.1.1,Bool.true_and];exact decide_eq_decide.2 ao
 | num n=>exact key _
 | name n=>exact key _
 | at_ s a=>exact key _
 | call s l=>exact key _
 | un s a=>exact key _
theorem BV (lv k:Nat) (x:ah):tO (decide (lv < k)) x=qm lv k x:=by
 unfold tO qm
 by_cases h:lv < k
 ·rw [if_pos (by simpa using h),if_pos h]
 ·rw [if_neg (by simpa using h),if_neg h]
theorem TQ {a:E} (h:a.ok=true):(a.tree.n.kind==6)=decide (a.lv < 9):=by
 cases a with
 | bin s x y =>
  simp only [E.ok,Bool.and_eq_true] at h;have:=(pz h.1.1).1;show true=decide (dO s < 9);exact (decide_eq_true this).symm
 | _=>rfl
mutual
theorem jb:∀ a:E,a.ok=true->cQ a.tree=a.txt
 | .num n,h=>by
  simp only [E.ok,Bool.and_eq_true,decide_eq_true_eq] at h;rw [E.tree,cQ,E.txt];unfold tG nX;simp only [if_true];rw [if_neg ao]
 | .name s,h=>by
  rw [E.tree,cQ,E.txt];simp [tG]
 | .at_ s a,h=>by
  simp only [E.ok,Bool.and_eq_true] at h;have h2:=jb a h.2;rw [E.tree,cQ,fB,fB,h2,E.txt];simp [tG]
 | .call s l,h=>by
  simp only [E.ok,Bool.and_eq_true] at h;rw [E.tree,cQ,Jo l h.2,E.txt];simp [tG]
 | .un s a,h=>by
  simp only [E.ok,Bool.and_eq_true] at h;have h2:=jb a h.2;rw [E.tree,cQ,fB,fB,h2,E.txt,<-BV,<-TQ h.2];simp [tG]
 | .bin s a b,h=>by
  simp only [E.ok,Bool.and_eq_true] at h;have h2:=jb a h.1.2;have h3:=jb b h.2;have hl:=(pz h.1.1).1;have e1:=IV h.1.2 (dO s) ao;have e2:=IV h.2 (dO s+1) ao;rw [E.tree,cQ,fB,fB,fB,h2,h3,E.txt,<-BV,<-BV,<-e1,<-e2];unfold tG;simp only [NI h.1.1];simp
theorem Jo:∀ l:List E,E.cP l=true->fB (E.trees l)=E.cM l
 | [],_=>rfl
 | a::l,h=>by
  simp only [E.cP,Bool.and_eq_true] at h;rw [E.trees,fB,E.cM,jb a h.1,Jo l h.2]
end
theorem CW (x:E->ah):∀ (l:List S) (acc:ah),rU acc (l.map (S.txt x))=S.cM x acc l
 | [],acc=>by rw [S.cM];rfl
 | a::l,acc=>by
  rw [S.cM,<-CW x l];simp [rU,append_assoc]
mutual
theorem To:∀ (s:S),s.ok=true->∀ d,jV cQ fu d s.tree=s.txt E.txt
 | .set s a,h,d=>by
  simp only [S.ok,Bool.and_eq_true] at h;rw [S.tree,jV,List.map_cons,jb a h.2,S.txt];simp [xc]
 | .var s a,h,d=>by
  simp only [S.ok,Bool.and_eq_true] at h;rw [S.tree,jV,List.map_cons,jb a h.2,S.txt];simp [xc]
 | .ret a,h,d=>by
  simp only [S.ok] at h;rw [S.tree,jV,List.map_cons,jb a h,S.txt];simp [xc]
 | .do_ a,h,d=>by
  simp only [S.ok] at h;rw [S.tree,jV,List.map_cons,jb a h,S.txt];simp [xc]
 | .put s a b,h,d=>by
  simp only [S.ok,Bool.and_eq_true] at h;rw [S.tree,jV,List.map_cons,List.map_cons,jb a h.2.1,jb b h.2.2,S.txt];simp [xc]
 | .if1 c b,h,d=>by
  simp only [S.ok,Bool.and_eq_true] at h;have hb:=uR b h.2 d;rw [S.tree,jV,List.map_cons,jb c h.1,pL,pL,pL,hb,S.txt];simp [xc,eW]
 | .if2 c b b2,h,d=>by
  simp only [S.ok,Bool.and_eq_true] at h;have hb:=uR b h.2.1 d;have eJ:=uR b2 h.2.2 d;rw [S.tree,jV,List.map_cons,jb c h.1,pL,pL,pL,pL,hb,eJ,S.txt];simp [xc,eW]
 | .while_ c b,h,d=>by
  simp only [S.ok,Bool.and_eq_true] at h;have hb:=uR b h.2 d;rw [S.tree,jV,List.map_cons,jb c h.1,pL,pL,pL,hb,S.txt];simp [xc,eW]
theorem uR:∀ (l:List S),S.cP l=true->∀ d,nb cQ fu d (.mk ⟨14,0,0,[],[]⟩ (S.trees l))=eW E.txt l
 | l,h,d=>by
  rw [nb,Ji l h (d+1),fu,CW];rfl
theorem Ji:∀ (l:List S),S.cP l=true->∀ d,xb cQ fu d (S.trees l)=l.map (S.txt E.txt)
 | [],_,d=>by rw [S.trees,xb];rfl
 | a::l,h,d=>by
  simp only [S.cP,Bool.and_eq_true] at h;rw [S.trees,xb,List.map_cons,To a h.1,Ji l h.2]
end
theorem qD {α:Type} {p:α->α->Bool} (h:∀ x,p x x=true):∀ l:List α,fg p l l=true
 | []=>rfl
 | a::l=>by rw [fg,h a,qD h l];rfl
theorem yr {α:Type} [BEq α] [LawfulBEq α]:∀ {a b:List α},fg (fun x y=>x==y) a b=true->a=b
 | [],[],_=>rfl
 | a::r,b::s,h=>by rw [fg,Bool.and_eq_true,beq_iff_eq] at h;rw [h.1,yr h.2]
 | [],b::s,h=>by cases h
 | a::r,[],h=>by cases h
theorem Ia {α:Type} {p:α->α->Bool}:∀ {a b:List α} {c d:List α},a.length=b.length->fg p (a++c) (b++d)=(fg p a b&&fg p c d)
 | [],[],c,d,_=>rfl
 | a::r,b::s,c,d,h=>by rw [cons_append,cons_append,fg,fg,Ia (by simpa using h),Bool.and_assoc]
 | [],b::s,_,_,h=>by simp at h
 | a::r,[],_,_,h=>by simp at h
theorem wg:∀ (l:List T) (a:Nat),bX a (aM l)=bX a l
 | [],a=>by rw [aM]
 | t::r,a=>by rw [aM,bX,bX,vF,wg r]
mutual
theorem SC:∀ (t u:T) (a:Nat),er t=er u->fg kF (lO a t) (lO a u)=true
 | .mk n l,.mk m k,a,h=>by
  rw [er,er] at h
  injection h with h1 h2
  injection h1 with h3 h4 h5 h6 h7
  rw [lO,lO,fg,B5 l k (a+1) h2,Bool.and_true,<-wg l,<-wg k,h2];simp only [kF,h3,h5,h6];simp [qD]
theorem B5:∀ (l k:List T) (a:Nat),aM l=aM k->fg kF (ef a l) (ef a k)=true
 | [],[],a,_=>by rw [ef];rfl
 | t::r,u::s,a,h=>by
  rw [aM,aM] at h
  injection h with h1 h2
  have hz:aP t=aP u:=by rw [<-vF t,h1,vF u]
  rw [ef,ef,Ia (by rw [Il,Il,hz]),SC t u a h1,<-hz,B5 r s _ h2];rfl
 | [],u::s,a,h=>by rw [aM,aM] at h;cases h
 | t::r,[],a,h=>by rw [aM,aM] at h;cases h
end
mutual
theorem Tl:∀ (t u:T) (a:Nat) (x y:List Nd),fg kF (lO a t++x) (lO a u++y)=true->er t=er u/\fg kF x y=true
 | .mk n l,.mk m k,a,x,y,h=>by
  rw [lO,lO,cons_append,cons_append,fg,Bool.and_eq_true] at h;obtain ⟨h1,h2⟩:=h;simp only [kF,Bool.and_eq_true,beq_iff_eq] at h1;obtain ⟨⟨⟨h3,h4⟩,h5⟩,h6⟩:=h1;have h7:=congrArg List.length (yr h6);rw [dX,dX] at h7;obtain ⟨h8,h9⟩:=CC l k (a+1) x y h7 h2;exact ⟨by rw [er,er,h3,h4,h5,h8],h9⟩
theorem CC:∀ (l k:List T) (a:Nat) (x y:List Nd),l.length=k.length->fg kF (ef a l++x) (ef a k++y)=true->aM l=aM k/\fg kF x y=true
 | [],[],a,x,y,_,h=>by rw [ef,nil_append,nil_append] at h;exact ⟨rfl,h⟩
 | t::r,u::s,a,x,y,hl,h=>by
  rw [ef,ef,append_assoc,append_assoc] at h;obtain ⟨h1,h2⟩:=Tl t u a _ _ h
  have hz:aP t=aP u:=by rw [<-vF t,h1,vF u]
  rw [<-hz] at h2;obtain ⟨h3,h4⟩:=CC r s _ x y (by simpa using hl) h2;exact ⟨by rw [aM,aM,h1,h3],h4⟩
 | [],u::s,a,x,y,hl,h=>by simp at hl
 | t::r,[],a,x,y,hl,h=>by simp at hl
end
theorem Tk {l k:List T} (hl:l.length=k.length) (h:fg kF (ef 0 l) (ef 0 k)=true):aM l=aM k:=by
 have:=CC l k 0 [] [] hl (by rw [append_nil,append_nil];exact h);exact this.1
structure PS where
 trees:List T
 globals:List ah
 arrays:List Ar
 fns:List (ah × List ah)
def PS.empty:PS:=⟨[],[],[],[]⟩
def oK:Nat->List ah->RS->Option (List ah × RS)
 | 0,_,_=>none
 | f+1,acc,p =>
  if p.code=0/\is p 0 [41]=false then oK f (acc++[(tok (if acc.length=0 then p else want p [44]) 0).s]) (bm (if acc.length=0 then p else want p [44]))
  else some (acc,want p [41])
def iW (f:Nat) (p:RS) (st:PS):Option (RS × PS) :=
 if is p 0 lj=true then
  if (bm p.next).code=0/\is (bm p.next) 0 [91]=true then
   if (tok (bm p.next).next 0).kind=1 then
    some (want (want (bm p.next).next.next [93]) [59],{ st with arrays:=st.arrays++[⟨(tok p.next 0).s,(tok (bm p.next).next 0).n⟩] })
   else some (jX (bm p.next).next,st)
  else some (want (bm p.next) [59],{ st with globals:=st.globals++[(tok p.next 0).s] })
 else if is p 0 mF=true then
  match oK f [] (want (bm p.next) [40]) with
  | none=>none
  | some (l,q) =>
   if q.code=0 then match iS f (.block 1) q with
    | none=>none
    | some (t,q)=>some (q,{ st with trees:=st.trees++[t],fns:=st.fns++[((tok p.next 0).s,l)] })
   else some (q,st)
 else some (jX p,st)
def nj:Nat->Nat->RS->PS->Option (RS × PS)
 | 0,_,_,_=>none
 | g+1,f,p,st =>
  if p.code=0/\p.i < p.l.length then match iW f p st with
   | none=>none
   | some (p,st)=>nj g f p st
  else some (p,st)
theorem Nl:∀ (f:Nat) (acc:List ah) (p:RS) (l:List ah) (q:RS),p.ok->oK f acc p=some (l,q)->p.to q
 | 0,_,_,_,_,_,h=>by cases h
 | f+1,acc,p,l,q,hp,h=>by
  rw [oK] at h;split at h
  ·have h1:p.to (if acc.length=0 then p else want p [44]):=by split;exact jH hp;exact cj hp _
   have h2:=gP (h1.ok hp);have h3:=Nl f _ _ l q ((h1.trans h2).ok hp) h;exact (h1.trans h2).trans h3
  ·cases h;exact cj hp _
theorem WS {f:Nat} {p q:RS} {st dT:PS} (hp:p.ok) (h:iW f p st=some (q,dT)):p.to q:=by
 unfold iW at h;split at h
 ·rename_i hi;have h1:=jy hi;have h2:=h1.trans (gP (h1.ok hp));split at h
  ·rename_i hb;have h3:=h2.trans (jy hb.2);split at h
   ·rename_i hk
    have ly:(tok (bm p.next).next 0).kind≠0:=by rw [hk];decide
    have h4:=h3.trans (dx (by have:=rO ly;exact this));have h5:=h4.trans (cj (h4.ok hp) [93])
    cases h;exact h5.trans (cj (h5.ok hp) _)
   ·cases h;exact h3.trans (wJ (h3.ok hp))
  ·cases h;exact h2.trans (cj (h2.ok hp) _)
 ·split at h
  ·rename_i hi;have h1:=jy hi;have h2:=h1.trans (gP (h1.ok hp));have h3:=h2.trans (cj (h2.ok hp) [40])
   cases hm:oK f [] (want (bm p.next) [40]) with
   | none=>rw [hm] at h;cases h
   | some r =>
    obtain ⟨l,q1⟩:=r;rw [hm] at h;simp only at h;have h4:=h3.trans (Nl _ _ _ _ _ (h3.ok hp) hm);split at h
    ·cases hb:iS f (.block 1) q1 with
     | none=>rw [hb] at h;cases h
     | some r =>
      obtain ⟨t,q2⟩:=r;rw [hb] at h;cases h;exact h4.trans ((Ee f).1 _ _ _ _ (h4.ok hp) hb)
    ·cases h;exact h4
  ·cases h;exact wJ hp
structure PS.le (a:PS) (n:Nat):Prop where
 trees:a.trees.length<=n
 globals:a.globals.length<=n
 arrays:a.arrays.length<=n
 fns:a.fns.length=a.trees.length
theorem WQ {f n:Nat} {p q:RS} {st dT:PS} (h:iW f p st=some (q,dT)) (hs:st.le n):dT.le (n+1):=by
 obtain ⟨a,b,c,d⟩:=hs;have key:st.le (n+1):=⟨by omega,by omega,by omega,d⟩;unfold iW at h;split at h
 ·split at h
  ·split at h
   ·cases h;exact ⟨by simp;omega,by simp;omega,by simp;omega,by simp;omega⟩
   ·cases h;exact key
  ·cases h;exact ⟨by simp;omega,by simp;omega,by simp;omega,by simp;omega⟩
 ·split at h
  ·split at h
   ·cases h
   ·split at h
    ·split at h
     ·cases h
     ·cases h;exact ⟨by simp;omega,by simp;omega,by simp;omega,by simp;omega⟩
    ·cases h;exact key
  ·cases h;exact key
end Go.Im
namespace Go.Sp
open Go.Xp
inductive Tz (s:ah):Nat->List Tok->Nat->Prop
 | nil (a:Nat):Tz s a [] a
 | blank {a b:Nat} {c:UInt8} {ts:List Tok} (hc:s[a]?=some c) (hb:dC c=true) (h:Tz s (a+1) ts b):Tz s a ts b
 | tok {a a' b:Nat} {c:UInt8} {t:Tok} {ts:List Tok} (hc:s[a]?=some c) (hb:dC c=false) (hr:bx s a [47,42]=false) (ht:iK s a c=(t,a')) (hk:t.kind=1\/t.kind=2\/t.kind=3) (hn:t.n<=2147483647) (ha:a < a') (h:Tz s a' ts b):Tz s a (t::ts) b
theorem Tz.app {s:ah} {a b c:Nat} {ts us:List Tok} (h:Tz s a ts b) (k:Tz s b us c):Tz s a (ts++us) c:=by
 induction h with
 | nil a=>exact k
 | blank hc hb h ih=>exact .blank hc hb (ih k)
 | tok hc hb hr ht hk hn ha h ih=>exact .tok hc hb hr ht hk hn ha (ih k)
theorem Tz.kinds {s:ah} {a b:Nat} {ts:List Tok} (h:Tz s a ts b):∀ t∈ts,t.kind=1\/t.kind=2\/t.kind=3:=by
 induction h with
 | nil a=>intro t h;cases h
 | blank hc hb h ih=>exact ih
 | tok hc hb hr ht hk hn ha h ih =>
  intro t h
  rcases List.mem_cons.1 h with rfl | h
  ·exact hk
  ·exact ih t h
theorem Tz.len {s:ah} {a b:Nat} {ts:List Tok} (h:Tz s a ts b):a+ts.length<=b:=by
 induction h with
 | nil a=>simp
 | blank hc hb h ih=>omega
 | tok hc hb hr ht hk hn ha h ih=>simp only [length_cons];omega
theorem N6 (s:ah):∀ (f f' a:Nat),a<=s.length->s.length < f+a->s.length < f'+a->skip s f a=skip s f' a:=by
 intro f
 induction f with
 | zero=>intro f' a h1 h2;omega
 | succ f ih =>
  intro f' a h1 h2 h3;obtain ⟨f',rfl⟩:∃ g,f'=g+1:=⟨f' - 1,by omega⟩;rw [skip,skip]
  cases hc:s[a]? with
  | none=>rfl
  | some c =>
   simp only;have ak:=(List.getElem?_eq_some_iff.1 hc).1;split
   ·exact ih f' (a+1) ao ao ao
   ·split
    ·rename_i hb;have hb:=ju hb;have hb:a+2<=s.length:=hb;have h4:=sf s s.length (a+2) hb;have h5:=rf s s.length (a+2) hb ao;split
     ·rfl
     ·rename_i hn
      have h6:bx s (eO s s.length (a+2)) [42,47]=true:=by
       cases oc:bx s (eO s s.length (a+2)) [42,47] with
       | true=>rfl
       | false=>exact absurd ⟨by omega,oc⟩ h5
      have h6:=ju h6;have h6:eO s s.length (a+2)+2<=s.length:=h6;exact ih f' _ ao ao ao
    ·rfl
theorem Tz.iy {s:ah} {a b:Nat} {ts:List Tok} (h:Tz s a ts b):∀ (f:Nat) (acc:List Tok),qg s (f+ts.length) (skip s (s.length+1) a).1 acc=qg s f (skip s (s.length+1) b).1 (acc++ts):=by
 induction h with
 | nil a=>intro f acc;simp
 | blank hc hb h ih =>
  rename_i a b c ts;intro f acc;have ak:=(List.getElem?_eq_some_iff.1 hc).1;rw [<-ih f acc]
  have:skip s (s.length+1) a=skip s (s.length+1) (a+1):=by
   rw [skip,hc];simp only;rw [if_pos hb];exact N6 s _ _ _ ao ao ao
  rw [this]
 | tok hc hb hr ht hk hn ha h ih =>
  rename_i a a' b c t ts;intro f acc
  have:skip s (s.length+1) a=(a,-1):=by
   rw [skip,hc];simp only;rw [if_neg (by rw [hb];decide),if_neg (by rw [hr];decide)]
  rw [this,length_cons,<-Nat.add_assoc,qg,hc];simp only [ht];rw [ih f (acc++[t]),append_assoc];rfl
theorem Tz.all {s:ah} {ts:List Tok} (h:Tz s 0 ts s.length):Go.Sp.iy s=some ts:=by
 have h1:=h.len;have h2:=h.iy (s.length+2 - ts.length) [];unfold Go.Sp.iy;rw [show s.length+2 - ts.length+ts.length=s.length+2 by omega] at h2;rw [h2]
 have h3:skip s (s.length+1) s.length=(s.length,-1):=by rw [skip];simp
 rw [h3];obtain ⟨g,hg⟩:∃ g,s.length+2 - ts.length=g+1:=⟨s.length+1 - ts.length,by omega⟩;rw [hg,qg];simp
theorem mM {s r:ah} {a:Nat} {c:UInt8} (h:s.drop a=c::r):s[a]?=some c/\s.drop (a+1)=r/\a < s.length:=by
 have h1:s[a]?=some c:=by
  have:=List.getElem?_drop (xs:=s) (i:=a) (j:=0);rw [h] at this;simpa using this.symm
 refine ⟨h1,?_,(List.getElem?_eq_some_iff.1 h1).1⟩;rw [<-List.tail_drop,h];rfl
theorem Th (s:ah) (p:UInt8->Bool):∀ (w post:ah) (f a:Nat),s.drop a=w++post->(∀ c∈w,p c=true)->run s p (f+w.length) a=run s p f (a+w.length):=by
 intro w
 induction w with
 | nil=>intro post f a h hp;rfl
 | cons c w ih =>
  intro post f a h hp;obtain ⟨h1,h2,_⟩:=mM h;rw [length_cons,<-Nat.add_assoc,run,h1];simp only;rw [if_pos (hp c (mem_cons_self)),ih post f (a+1) h2 (fun c hc=>hp c (mem_cons_of_mem _ hc))]
  congr 1;omega
theorem Qm (s:ah) (p:UInt8->Bool) (post:ah) (f a:Nat) (h:s.drop a=post) (hp:∀ c,post.head?=some c->p c=false):run s p f a=a:=by
 cases f with
 | zero=>rfl
 | succ f =>
  rw [run]
  cases post with
  | nil =>
   have:s[a]?=none:=by
    rw [List.getElem?_eq_none_iff];have:=congrArg List.length h;simp at this;omega
   rw [this]
  | cons c r =>
   obtain ⟨h1,_,_⟩:=mM h;rw [h1];simp only;rw [if_neg (by rw [hp c rfl];decide)]
theorem take_drop {s w post:ah} {a:Nat} (h:s.drop a=w++post):(s.take (a+w.length)).drop a=w:=by
 rw [List.drop_take,h,Nat.add_sub_cancel_left,List.take_left]
theorem FM {s w post:ah} {a:Nat} (h:s.drop a=w++post) (ha:a<=s.length):a+w.length+post.length=s.length:=by
 have:=congrArg List.length h;simp only [length_drop,length_append] at this;omega
theorem QQ {s w post:ah} {a:Nat} {c:UInt8} {r:ah} (ha:a<=s.length) (h:s.drop a=w++post) (hw:w=c::r) (hs:small c=true) (aQ:∀ c∈w,dP c=true) (hp:∀ c,post.head?=some c->dP c=false) :
  iK s a c=(⟨if words.contains w=true then 3 else 2,0,w,a⟩,a+w.length):=by
 have hl:=FM h ha
 have he:eC s a=a+w.length:=by
  unfold eC;obtain ⟨g,hg⟩:∃ g,s.length+1=g+w.length:=⟨s.length+1 - w.length,by omega⟩;rw [hg,Th s dP w post g a h aQ];refine Qm s dP post g _ ?_ hp;rw [<-List.drop_drop,h,drop_left]
 have hd:dV c=false:=by
  simp only [small,dV,Bool.and_eq_true] at hs |-;have h1:=of_decide_eq_true hs.1
  have:¬ ((c.toNat:Int)<=57):=by omega
  simp [this]
 unfold iK;rw [if_neg (by rw [hd];decide),if_pos hs];unfold fb;rw [he,take_drop h]
def fold (n:Int) (w:ah):Int:=w.foldl (fun n c=>if n<=2147483647 then n * 10+((c.toNat:Int) - 48) else n) n
theorem KK (s:ah):∀ (w post:ah) (f:Nat) (n:Int) (a:Nat),s.drop a=w++post->(∀ c∈w,dV c=true)->number s (f+w.length) n a=number s f (fold n w) (a+w.length):=by
 intro w
 induction w with
 | nil=>intro post f n a h hp;rfl
 | cons c w ih =>
  intro post f n a h hp;obtain ⟨h1,h2,_⟩:=mM h;rw [length_cons,<-Nat.add_assoc,number,h1];simp only;rw [if_pos (hp c (mem_cons_self)),ih post f _ (a+1) h2 (fun c hc=>hp c (mem_cons_of_mem _ hc))];rw [show a+1+w.length=a+(w.length+1) by omega];rfl
theorem HA (s:ah) (post:ah) (f:Nat) (n:Int) (a:Nat) (h:s.drop a=post) (hp:∀ c,post.head?=some c->dV c=false):number s f n a=(n,a):=by
 cases f with
 | zero=>rfl
 | succ f =>
  rw [number]
  cases post with
  | nil =>
   have:s[a]?=none:=by
    rw [List.getElem?_eq_none_iff];have:=congrArg List.length h;simp at this;omega
   rw [this]
  | cons c r =>
   obtain ⟨h1,_,_⟩:=mM h;rw [h1];simp only;rw [if_neg (by rw [hp c rfl];decide)]
theorem Md (k:Nat) (h:k<=9):dV (UInt8.ofNat (48+k))=true/\((UInt8.ofNat (48+k)).toNat:Int)=48+k:=by
 have:(UInt8.ofNat (48+k)).toNat=48+k:=by simp;omega
 refine ⟨?_,by rw [this];omega⟩;simp only [dV,Bool.and_eq_true,this];exact ⟨decide_eq_true ao,decide_eq_true ao⟩
theorem H5 (n:Nat):(∀ c∈cD n,dV c=true)/\(n<=2147483647->fold 0 (cD n)=n)/\cD n≠[]:=by
 induction n using Nat.strongRecOn with
 | _ n ih =>
 unfold cD
 by_cases h:n < 10
 ·rw [dif_pos h];obtain ⟨h1,h2⟩:=Md n ao;refine ⟨fun c hc=>by rw [mem_singleton] at hc;subst hc;exact h1,fun _=>?_,by simp⟩;simp only [fold,foldl_cons,List.foldl_nil];rw [if_pos ao,h2];omega
 ·rw [dif_neg h];obtain ⟨h1,h2,h3⟩:=ih (n / 10) ao;obtain ⟨h4,h5⟩:=Md (n % 10) ao;refine ⟨fun c hc=>?_,fun hn=>?_,by simp⟩
  ·rcases List.mem_append.1 hc with hc | hc
   ·exact h1 c hc
   ·rw [mem_singleton] at hc;subst hc;exact h4
  ·have:=h2 ao;unfold fold at this |-;rw [List.foldl_append,this];simp only [foldl_cons,List.foldl_nil];rw [if_pos ao,h5];omega
theorem S4 {s post:ah} {n a:Nat} {c:UInt8} {r:ah} (ha:a<=s.length) (h:s.drop a=cD n++post) (hw:cD n=c::r) (hn:n<=2147483647) (hp:∀ c,post.head?=some c->dV c=false) :
  iK s a c=(⟨1,n,[],a⟩,a+(cD n).length):=by
 obtain ⟨h1,h2,h3⟩:=H5 n;have hl:=FM h ha;have hd:dV c=true:=h1 c (by rw [hw];exact mem_cons_self);obtain ⟨g,hg⟩:∃ g,s.length+1=g+(cD n).length:=⟨s.length+1 - (cD n).length,by omega⟩;unfold iK;rw [if_pos hd,hg,KK s (cD n) post g 0 a h h1,h2 hn,HA s post g _ _ (by rw [<-List.drop_drop,h,drop_left]) hp]
theorem ux {s r t:ah} {a:Nat} (h:s.drop a=r) (ha:a<=s.length):bx s a t=t.isPrefixOf r:=by
 have hl:a+r.length=s.length:=by have:=congrArg List.length h;simp at this;omega
 unfold bx;rw [List.drop_take,h,Nat.add_sub_cancel_left]
 by_cases hp:t <+: r
 ·obtain ⟨z,rfl⟩:=hp;simp only [length_append] at hl
  have h2:t.isPrefixOf (t++z)=true:=by rw [List.isPrefixOf_iff_prefix];exact ⟨z,rfl⟩
  rw [h2,List.take_left];simp only [Bool.and_eq_true,beq_self_eq_true,and_true,decide_eq_true_eq];omega
 ·have h1:t.isPrefixOf r=false:=by
   cases hh:t.isPrefixOf r with
   | false=>rfl
   | true=>exact absurd (List.isPrefixOf_iff_prefix.1 hh) hp
  rw [h1]
  have h2:(r.take t.length==t)=false:=by
   rw [beq_eq_false_iff_ne];intro h3;exact hp ⟨r.drop t.length,by have:=take_append_drop t.length r;rw [h3] at this;exact this⟩
  rw [h2,Bool.and_false]
def CA:List UInt8:=[32,40,41,91,93,44,59,123,125,10]
def Sep (post:ah):Prop:=∀ c,post.head?=some c->c∈CA
theorem Sep.dP {post:ah} (h:Sep post):∀ c,post.head?=some c->dP c=false:=by
 intro c hc
 have:∀ c∈CA,Go.Sp.dP c=false:=by decide
 exact this c (h c hc)
theorem Sep.dV {post:ah} (h:Sep post):∀ c,post.head?=some c->dV c=false:=by
 intro c hc
 have:∀ c∈CA,Go.Sp.dV c=false:=by decide
 exact this c (h c hc)
theorem Ta {x y z:ah} (h:x.length<=y.length):x.isPrefixOf (y++z)=x.isPrefixOf y:=by
 induction x generalizing y with
 | nil=>simp
 | cons a x ih =>
  cases y with
  | nil=>simp at h
  | cons b y=>simp only [cons_append,List.isPrefixOf];rw [ih (by simpa using h)]
theorem find_congr {α:Type} {p q:α->Bool}:∀ {l:List α},(∀ x∈l,p x=q x)->l.find? p=l.find? q
 | [],_=>rfl
 | a::l,h=>by rw [List.find?_cons,List.find?_cons,h a (mem_cons_self),find_congr (fun x hx=>h x (mem_cons_of_mem _ hx))]
theorem Qs {s w post:ah} {a:Nat} {c:UInt8} {r:ah} (ha:a<=s.length) (h:s.drop a=w++post) (hw:w=c::r) (hm:w∈bH) (hp:Sep post) :
  iK s a c=(⟨3,0,w,a⟩,a+w.length)/\dC c=false/\bx s a [47,42]=false:=by
 have hd:∀ w∈bH,∀ c,w.head?=some c->dV c=false/\small c=false/\dC c=false:=by
  have:∀ w∈bH,(match w.head? with | some c=>!dV c&&!small c&&!dC c | none=>true)=true:=by decide
  intro w hw c hc;have:=this w hw;rw [hc] at this;simp only [Bool.and_eq_true,Bool.not_eq_true'] at this;exact ⟨this.1.1,this.1.2,this.2⟩
 obtain ⟨h1,h2,h3⟩:=hd w hm c (by rw [hw];rfl)
 have J9:∀ w∈bH,w.length<=2/\1<=w.length:=by decide
 have key:∀ w∈bH,bH.find? (fun x=>x.isPrefixOf w)=some w/\[47,42].isPrefixOf w=false:=by decide
 have ZE:∀ w∈bH,∀ c∈CA,bH.find? (fun x=>x.isPrefixOf (w++[c]))=some w/\[47,42].isPrefixOf (w++[c])=false:=by decide
 have hf:bH.find? (bx s a)=some w/\bx s a [47,42]=false:=by
  have e1:∀ x,bx s a x=x.isPrefixOf (w++post):=fun x=>ux h ha
  have e2:bH.find? (bx s a)=bH.find? (fun x=>x.isPrefixOf (w++post)):=find_congr fun x _=>e1 x
  rw [e2,e1]
  cases post with
  | nil=>rw [append_nil];exact key w hm
  | cons c' post =>
   have du:=hp c' rfl
   have e3:∀ x:ah,x.length<=2->x.isPrefixOf (w++c'::post)=x.isPrefixOf (w++[c']):=fun x hx=>by
    rw [show w++c'::post=(w++[c'])++post by simp];exact Ta (by rw [length_append];have:=(J9 w hm).2;simp;omega)
   rw [find_congr fun x hx=>e3 x (J9 x hx).1,e3 _ au];exact ZE w hm c' du
 refine ⟨?_,h3,hf.2⟩;unfold iK;rw [if_neg (by rw [h1];decide),if_neg (by rw [h2];decide),hf.1]
theorem Pn {s post:ah} {a:Nat} {c:UInt8} (ha:a<=s.length) (h:s.drop a=c::post) (hm:c∈[40,41,91,93,44,59,123,125]) :
  iK s a c=(⟨3,0,[c],a⟩,a+1)/\dC c=false/\bx s a [47,42]=false:=by
 have hd:∀ c∈([40,41,91,93,44,59,123,125]:List UInt8),dV c=false/\small c=false/\dC c=false/\c≠47:=by decide
 obtain ⟨h1,h2,h3,h4⟩:=hd c hm
 have e1:∀ x,bx s a x=x.isPrefixOf (c::post):=fun x=>ux h ha
 have e2:bH.find? (bx s a)=bH.find? (fun x=>x.isPrefixOf (c::post)):=find_congr fun x _=>e1 x
 have key:∀ post:ah,∀ c∈([40,41,91,93,44,59,123,125]:List UInt8),bH.find? (fun x=>x.isPrefixOf (c::post))=some [c]:=by
  intro post c hc;simp only [List.mem_cons,List.not_mem_nil,or_false] at hc
  rcases hc with rfl | rfl | rfl | rfl | rfl | rfl | rfl | rfl <;> rfl
 refine ⟨?_,h3,?_⟩
 ·unfold iK;rw [if_neg (by rw [h1];decide),if_neg (by rw [h2];decide),e2,key post c hm];rfl
 ·rw [e1];simp only [List.isPrefixOf]
  have:((47:UInt8)==c)=false:=by rw [beq_eq_false_iff_ne];exact fun h=>h4 h.symm
  rw [this,Bool.false_and]
end Go.Sp
namespace Go.Im
open Go.Xp Go.Sp
def lH:List ah:=[[105,110,116],[118,97,114],[102,117,110,99],[105,102],[101,108,115,101],[119,104,105,108,101],[114,101,116,117,114,110],[124,124],[38,38],[61,61],[33,61],[60,61],[62,61],[60,60],[62,62],[40],[41],[123],[125],[91],[93],[44],[59],[61],[60],[62],[43],[45],[42],[47],[37],[38],[124],[94],[33],[126]]
theorem yb:lH=words++bH:=by decide
def jN (s:ah):Bool:=lH.contains s
def jS:ah->Int->Int
 | [],n=>n
 | c::r,n=>if n<=2147483647 then jS r (10 * n+((c.toNat:Int) - 48)) else n
def cB (s:ah) (a b:Nat):ah:=(s.take b).drop a
def gk (s:ah) (a:Nat) (k:Nat):Bool:=decide (a+k<=s.length)&&(match s[a]? with | some c=>!(small c) | none=>false)&&jN (cB s a (a+k))
def fJ (s:ah) (a:Nat):ah:=if gk s a 2=true then cB s a (a+2) else if gk s a 1=true then cB s a (a+1) else []
def jJ (s:ah) (a:Nat):Nat:=run s dV (s.length+1) a
def qe:Tok:=⟨0,0,[],0⟩
def kj (s:ah) (a:Nat) (c:UInt8):Tok × Nat × Int :=
 if dV c=true then
  if jS (cB s a (jJ s a)) 0 > 2147483647 then (qe,a,3) else (⟨1,jS (cB s a (jJ s a)) 0,[],a⟩,jJ s a,0)
 else if small c=true then (⟨if jN (fb s a)=true then 3 else 2,0,fb s a,a⟩,eC s a,0)
 else if fJ s a=[] then (qe,a,2)
 else (⟨3,0,fJ s a,a⟩,a+(fJ s a).length,0)
def pV:ah->Option Nat
 | []=>none
 | b::l=>if List.isPrefixOf [42,47] (b::l) then some 0 else match pV l with | none=>none | some n=>some (n+1)
def mY (s:ah):Nat->Nat->List Tok->Option (List Tok × Int × Int)
 | 0,_,_=>none
 | f+1,a,acc=>match s[a]? with
  | none=>some (acc,0,0)
  | some c =>
   if dC c=true then mY s f (a+1) acc
   else if bx s a [47,42]=true then
    match pV (s.drop (a+2)) with
    | none=>some ([],4,a)
    | some n=>mY s f (a+(n+4)) acc
   else if (kj s a c).2.2≠0 then some ([],(kj s a c).2.2,a)
   else mY s f (kj s a c).2.1 (acc++[(kj s a c).1])
structure AG (t:Tok):Prop where
 num:t.kind=1->0<=t.n/\t.n<=2147483647/\t.s=[]
 name:t.kind=2->word t.s=true/\jN t.s=false
 sign:t.kind=3->jN t.s=true
 kinds:t.kind=1\/t.kind=2\/t.kind=3
theorem kP {s:ah} {a b:Nat} (h:b<=s.length):(cB s a b).length=b - a:=by
 unfold cB;rw [length_drop,length_take];omega
theorem pf {s:ah} {a b:Nat} {c:UInt8} (h:s[a]?=some c) (hb:a < b) (hl:b<=s.length):cB s a b=c::cB s (a+1) b:=by
 unfold cB;have ak:=(List.getElem?_eq_some_iff.1 h).1
 have:(s.take b)[a]?=some c:=by rw [getElem?_take,if_pos hb];exact h
 have h2:=(List.getElem?_eq_some_iff.1 this);rw [List.drop_eq_getElem_cons h2.1,h2.2]
theorem Cy (s:ah) (p:UInt8->Bool):∀ (f a:Nat),a<=s.length->∀ c∈cB s a (run s p f a),p c=true:=by
 intro f
 induction f with
 | zero =>
  intro a ha c hc;rw [Go.Sp.run] at hc
  have:(cB s a a).length=0:=by rw [kP ha];omega
  rw [eq_nil_of_length_eq_zero this] at hc;cases hc
 | succ f ih =>
  intro a ha c hc;rw [Go.Sp.run] at hc
  have Fq:∀ x:ah,x=cB s a a->c∈x->p c=true:=fun x hx hm=>by
   have:(cB s a a).length=0:=by rw [kP ha];omega
   rw [hx,eq_nil_of_length_eq_zero this] at hm;cases hm
  cases hq:s[a]? with
  | none=>rw [hq] at hc;exact Fq _ rfl hc
  | some d =>
   rw [hq] at hc;simp only at hc;have ak:=(List.getElem?_eq_some_iff.1 hq).1
   by_cases hp:p d=true
   ·rw [if_pos hp] at hc
    have lx:a+1<=Go.Sp.run s p f (a+1)/\Go.Sp.run s p f (a+1)<=s.length:=by
     have:∀ (f a:Nat),a<=s.length->a<=Go.Sp.run s p f a/\Go.Sp.run s p f a<=s.length:=by
      intro f
      induction f with
      | zero=>intro a h;exact ⟨Nat.le_refl _,h⟩
      | succ f ih =>
       intro a h;rw [Go.Sp.run]
       cases hq:s[a]? with
       | none=>exact ⟨Nat.le_refl _,h⟩
       | some d =>
        simp only;split
        ·have:=ih (a+1) (List.getElem?_eq_some_iff.1 hq).1;omega
        ·exact ⟨Nat.le_refl _,h⟩
     exact this f (a+1) ak
    rw [pf hq ao lx.2] at hc
    rcases List.mem_cons.1 hc with rfl | hc
    ·exact hp
    ·exact ih (a+1) ak c hc
   ·rw [if_neg hp] at hc;exact Fq _ rfl hc
theorem I5:∀ (w:ah) (n:Int),0<=n->(∀ c∈w,dV c=true)->0<=jS w n
 | [],n,h,_=>h
 | c::r,n,h,hd=>by
  rw [jS];have hc:=hd c (mem_cons_self);simp only [dV,Bool.and_eq_true,decide_eq_true_eq] at hc;split
  ·exact I5 r _ ao (fun c hc=>hd c (mem_cons_of_mem _ hc))
  ·exact h
theorem PJ {x:ah} (h:jN x=true):x≠[]:=by
 intro h0;subst h0;revert h;decide
theorem Jq {s:ah} {a:Nat} {c:UInt8} (hc:s[a]?=some c) (h0:(kj s a c).2.2=0):AG (kj s a c).1/\(kj s a c).1.at_=a/\a < (kj s a c).2.1/\(kj s a c).2.1<=s.length:=by
 have ak:=(List.getElem?_eq_some_iff.1 hc).1;unfold kj at h0 |-
 by_cases hd:dV c=true
 ·rw [if_pos hd] at h0 |-
  by_cases hn:jS (cB s a (jJ s a)) 0 > 2147483647
  ·rw [if_pos hn] at h0;cases h0
  ·rw [if_neg hn];obtain ⟨e1,e2,e3⟩:=pE s dV (s.length+1) a ao ao
   have wY:a < jJ s a:=by
    rcases Nat.lt_or_ge a (jJ s a) with h | h
    ·exact h
    ·have he:Go.Sp.run s dV (s.length+1) a=a:=by unfold jJ at h;omega
     have:=e1 c (by rw [he];exact hc);rw [hd] at this;cases this
   refine ⟨⟨fun _=>⟨I5 _ _ au (Cy s dV _ a ao),by simpa using hn,rfl⟩,fun h=>by simp at h,fun h=>by simp at h,.inl rfl⟩,rfl,wY,e3⟩
 ·rw [if_neg hd] at h0 |-
  by_cases hs:small c=true
  ·rw [if_pos hs];obtain ⟨e1,e2,e3⟩:=pE s dP (s.length+1) a ao ao
   have vd:dP c=true:=by simp [dP,hs]
   have wY:a < eC s a:=by
    rcases Nat.lt_or_ge a (eC s a) with h | h
    ·exact h
    ·have he:Go.Sp.run s dP (s.length+1) a=a:=by unfold eC at h;omega
     have:=e1 c (by rw [he];exact hc);rw [vd] at this;cases this
   have hw:word (fb s a)=true:=by
    have h1:fb s a=c::cB s (a+1) (eC s a):=pf hc wY e3;have h2:=Cy s dP (s.length+1) a ao;unfold word;have h3:(fb s a).all dP=true:=List.all_eq_true.2 h2;rw [h3,h1];simp [hs]
   refine ⟨⟨fun h=>?_,fun h=>⟨hw,?_⟩,fun h=>?_,?_⟩,rfl,wY,e3⟩
   ·simp only at h;split at h <;> cases h
   ·simp only at h;split at h
    ·cases h
    ·rename_i hh;simpa using hh
   ·simp only at h;split at h
    ·assumption
    ·cases h
   ·simp only;split
    ·exact .inr (.inr rfl)
    ·exact .inr (.inl rfl)
  ·rw [if_neg hs] at h0 |-
   by_cases hg:fJ s a=[]
   ·rw [if_pos hg] at h0;cases h0
   ·rw [if_neg hg]
    have key:jN (fJ s a)=true/\a+(fJ s a).length<=s.length:=by
     unfold fJ at hg |-
     have aux:∀ k,gk s a k=true->jN (cB s a (a+k))=true/\a+(cB s a (a+k)).length<=s.length:=fun k h=>by
      simp only [gk,Bool.and_eq_true,decide_eq_true_eq] at h;refine ⟨h.2,?_⟩;rw [kP h.1.1];have:=h.1.1;omega
     split
     ·exact aux 2 bD
     ·rename_i h2;rw [if_neg h2] at hg;split
      ·exact aux 1 bD
      ·rename_i h1;rw [if_neg h1] at hg;exact absurd rfl hg
    have hl:=List.length_pos_iff.2 (PJ key.1);exact ⟨⟨fun h=>by simp at h,fun h=>by simp at h,fun _=>key.1,.inr (.inr rfl)⟩,rfl,by simp only;omega,key.2⟩
theorem Ce:∀ {l:ah} {n:Nat},pV l=some n->n+2<=l.length
 | [],n,h=>by cases h
 | b::l,n,h=>by
  rw [pV] at h;split at h
  ·rename_i hp;cases h
   cases l with
   | nil=>simp [List.isPrefixOf] at hp
   | cons d l=>simp
  ·cases hq:pV l with
   | none=>rw [hq] at h;cases h
   | some m=>rw [hq] at h;cases h;have:=Ce hq;simp only [length_cons];omega
theorem rJ (s:ah):∀ (f a:Nat) (acc:List Tok),a<=s.length->s.length < f+a->(∀ t∈acc,AG t)->(acc.Pairwise fun x y=>x.at_ < y.at_)->(∀ t∈acc,t.at_ < (a:Int))->acc.length<=a ->
  ∃ ts c z,mY s f a acc=some (ts,c,z)/\(∀ t∈ts,AG t)/\(ts.Pairwise fun x y=>x.at_ < y.at_)/\ts.length<=s.length
 | 0,a,acc,h1,h2,_,_,_,_=>by omega
 | f+1,a,acc,h1,h2,h3,h4,h5,h6=>by
  rw [mY]
  cases hc:s[a]? with
  | none=>exact ⟨acc,0,0,rfl,h3,h4,by omega⟩
  | some c =>
   simp only;have ak:=(List.getElem?_eq_some_iff.1 hc).1;split
   ·exact rJ s f (a+1) acc ao ao h3 h4 (fun t ht=>by have:=h5 t ht;omega) ao
   ·split
    ·rename_i hb;have nf:=ju hb;simp only [length_cons,length_nil] at nf
     cases hi:pV (s.drop (a+2)) with
     | none=>exact ⟨[],4,a,rfl,fun t h=>by simp at h,.nil,Nat.zero_le _⟩
     | some n =>
      have:=Ce hi;rw [length_drop] at this;exact rJ s f (a+(n+4)) acc ao ao h3 h4 (fun t ht=>by have:=h5 t ht;omega) ao
    ·split
     ·exact ⟨[],_,a,rfl,fun t h=>by simp at h,.nil,Nat.zero_le _⟩
     ·rename_i h0;obtain ⟨k1,k2,k3,k4⟩:=Jq hc (by simpa using h0);refine rJ s f _ _ k4 ao (fun t ht=>?_) ?_ (fun t ht=>?_) (by rw [length_append];simp only [length_cons,length_nil];omega)
      ·rcases List.mem_append.1 ht with h | h
       ·exact h3 t h
       ·rw [mem_singleton] at h;subst h;exact k1
      ·rw [List.pairwise_append];refine ⟨h4,List.pairwise_singleton _ _,fun x hx y hy=>?_⟩;rw [mem_singleton] at hy;subst hy;rw [k2];exact h5 x hx
      ·rcases List.mem_append.1 ht with h | h
       ·have:=h5 t h;omega
       ·rw [mem_singleton] at h;subst h;rw [k2];omega
theorem zy (s:ah):∀ (f:Nat) (n:Int) (a:Nat),a<=s.length->s.length < f+a->jS (cB s a (number s f n a).2) n=(number s f n a).1
 | 0,n,a,h1,h2=>by omega
 | f+1,n,a,h1,h2=>by
  have Fq:cB s a a=[]:=eq_nil_of_length_eq_zero (by rw [kP h1];omega);rw [number]
  cases hc:s[a]? with
  | none=>simp only;rw [Fq,jS]
  | some c =>
   simp only;have ak:=(List.getElem?_eq_some_iff.1 hc).1
   by_cases hd:dV c=true
   ·rw [if_pos hd];obtain ⟨e1,e2,e3⟩:=wB s f (if n<=2147483647 then n * 10+((c.toNat:Int) - 48) else n) (a+1) ao ao;rw [pf hc ao e3,jS];have ih:=zy s f (if n<=2147483647 then n * 10+((c.toNat:Int) - 48) else n) (a+1) ao ao
    by_cases hn:n<=2147483647
    ·rw [if_pos hn] at ih |-;rw [if_pos hn,Int.mul_comm 10 n];exact ih
    ·rw [if_neg hn] at ih |-;rw [if_neg hn];rw [<-ih]
     cases hw:cB s (a+1) (number s f n (a+1)).2 with
     | nil=>rw [jS]
     | cons d r=>rw [jS,if_neg hn]
   ·rw [if_neg hd];simp only;rw [Fq,jS]
theorem Bo (s:ah):∀ (f:Nat) (n:Int) (a:Nat),(number s f n a).2=Go.Sp.run s dV f a
 | 0,n,a=>rfl
 | f+1,n,a=>by
  rw [number,Go.Sp.run]
  cases hc:s[a]? with
  | none=>rfl
  | some c =>
   simp only;split
   ·exact Bo s f _ (a+1)
   ·rfl
theorem nQ {s x:ah} {a:Nat}:bx s a x=(decide (a+x.length<=s.length)&&(cB s a (a+x.length)==x)):=rfl
theorem K7 {s:ah} {a:Nat} {c:UInt8} (hc:s[a]?=some c) (hs:small c=false):fJ s a=(match bH.find? (bx s a) with | some x=>x | none=>[]):=by
 have ak:=(List.getElem?_eq_some_iff.1 hc).1
 have h2:∀ x∈bH,x.length=1\/x.length=2:=by decide
 have A8:bH=bH.take 8++bH.drop 8:=(take_append_drop 8 bH).symm
 have jB:∀ x∈bH.take 8,x.length=2:=by decide
 have eT:∀ x∈bH.drop 8,x.length=1:=by decide
 have hw:∀ x∈words,∃ d r,x=d::r/\small d=true:=by
  intro x hx
  have:∀ x∈words,(match x with | d::_=>small d | []=>false)=true:=by decide
  have:=this x hx
  cases x with
  | nil=>cases this
  | cons d r=>exact ⟨d,r,rfl,this⟩
 have Pv:∀ k,1<=k->a+k<=s.length->cB s a (a+k)=c::cB s (a+1) (a+k):=fun k h1 h2=>pf hc ao h2
 have dL:∀ k,1<=k->a+k<=s.length->(jN (cB s a (a+k))=true↔cB s a (a+k)∈bH):=fun k h1 h2=>by
  unfold jN;rw [yb,contains_iff_mem,List.mem_append];refine ⟨fun h=>h.resolve_left fun hm=>?_,.inr⟩;obtain ⟨d,r,e1,e2⟩:=hw _ hm;rw [Pv k h1 h2] at e1
  cases e1;rw [hs] at e2;cases e2
 have Ke:∀ k,1<=k->(gk s a k=true↔a+k<=s.length/\cB s a (a+k)∈bH):=fun k h1=>by
  unfold gk;rw [hc];simp only [hs,Bool.not_false,Bool.and_true,Bool.and_eq_true,decide_eq_true_eq];exact ⟨fun ⟨p,q⟩=>⟨p,(dL k h1 p).1 q⟩,fun ⟨p,q⟩=>⟨p,(dL k h1 p).2 q⟩⟩
 have wb:∀ k,1<=k->k<=2->a+k<=s.length->cB s a (a+k)∈bH->(cB s a (a+k)).length=k:=fun k _ _ h _=>by rw [kP h];omega
 unfold fJ
 by_cases t2:gk s a 2=true
 ·rw [if_pos t2];obtain ⟨p,q⟩:=(Ke 2 au).1 t2
  have hq:cB s a (a+2)∈bH.take 8:=by
   rw [A8] at q
   rcases List.mem_append.1 q with h | h
   ·exact h
   ·have:=eT _ h;rw [kP p] at this;omega
  rw [A8,List.find?_append]
  have:(bH.take 8).find? (bx s a)=some (cB s a (a+2)):=by
   cases hf:(bH.take 8).find? (bx s a) with
   | none =>
    rw [find?_eq_none] at hf;have h1:=hf _ hq;rw [nQ,kP p,show a+(a+2 - a)=a+2 by omega] at h1;simp [p] at h1
   | some x =>
    have h1:=List.find?_some hf;have h3:=jB x (List.mem_of_find?_eq_some hf);rw [nQ,h3] at h1;simp only [Bool.and_eq_true,beq_iff_eq] at h1;rw [h1.2]
  rw [this];rfl
 ·rw [if_neg t2]
  have Zm:(bH.take 8).find? (bx s a)=none:=by
   rw [find?_eq_none];intro x hx hb;rw [nQ,jB x hx] at hb;simp only [Bool.and_eq_true,beq_iff_eq,decide_eq_true_eq] at hb;exact t2 ((Ke 2 au).2 ⟨hb.1,by rw [hb.2];exact List.mem_of_mem_take hx⟩)
  rw [A8,List.find?_append,Zm]
  by_cases t1:gk s a 1=true
  ·rw [if_pos t1];obtain ⟨p,q⟩:=(Ke 1 au).1 t1
   have hq:cB s a (a+1)∈bH.drop 8:=by
    rw [A8] at q
    rcases List.mem_append.1 q with h | h
    ·have:=jB _ h;rw [kP p] at this;omega
    ·exact h
   have:(bH.drop 8).find? (bx s a)=some (cB s a (a+1)):=by
    cases hf:(bH.drop 8).find? (bx s a) with
    | none =>
     rw [find?_eq_none] at hf;have h1:=hf _ hq;rw [nQ,kP p,show a+(a+1 - a)=a+1 by omega] at h1;simp [p] at h1
    | some x =>
     have h1:=List.find?_some hf;have h3:=eT x (List.mem_of_find?_eq_some hf);rw [nQ,h3] at h1;simp only [Bool.and_eq_true,beq_iff_eq] at h1;rw [h1.2]
   rw [this];rfl
  ·rw [if_neg t1]
   have:(bH.drop 8).find? (bx s a)=none:=by
    rw [find?_eq_none];intro x hx hb;rw [nQ,eT x hx] at hb;simp only [Bool.and_eq_true,beq_iff_eq,decide_eq_true_eq] at hb;exact t1 ((Ke 1 au).2 ⟨hb.1,by rw [hb.2];exact List.mem_of_mem_drop hx⟩)
   rw [this];rfl
theorem TC {s:ah} {a a':Nat} {c:UInt8} {t:Tok} (hc:s[a]?=some c) (h:iK s a c=(t,a')) (hk:t.kind=1\/t.kind=2\/t.kind=3) (hn:t.n<=2147483647):kj s a c=(t,a',0):=by
 have ak:=(List.getElem?_eq_some_iff.1 hc).1;unfold iK at h;unfold kj
 by_cases hd:dV c=true
 ·rw [if_pos hd] at h |-;cases h;have e1:jJ s a=(number s (s.length+1) 0 a).2:=(Bo s _ 0 a).symm;rw [e1,zy s _ 0 a ao ao,if_neg (by simpa using hn)]
 ·rw [if_neg hd] at h |-
  by_cases hs:small c=true
  ·rw [if_pos hs] at h |-;cases h
   have FB:∃ r,fb s a=c::r\/fb s a=[]:=by
    cases hw:fb s a with
    | nil=>exact ⟨[],.inr rfl⟩
    | cons d r =>
     obtain ⟨e1,e2,e3⟩:=pE s dP (s.length+1) a ao ao
     have vd:dP c=true:=by simp [dP,hs]
     have wY:a < eC s a:=by
      rcases Nat.lt_or_ge a (eC s a) with h | h
      ·exact h
      ·have he:Go.Sp.run s dP (s.length+1) a=a:=by unfold eC at h;omega
       have:=e1 c (by rw [he];exact hc);rw [vd] at this;cases this
     have h1:fb s a=c::cB s (a+1) (eC s a):=pf hc wY e3;rw [hw] at h1;cases h1;exact ⟨_,.inl rfl⟩
   have dL:jN (fb s a)=words.contains (fb s a):=by
    unfold jN;rw [yb]
    have A6:∀ x∈bH,(match x with | d::_=>small d | []=>true)=false:=by decide
    obtain ⟨r,h1⟩:=FB
    have:bH.contains (fb s a)=false:=by
     cases gW:bH.contains (fb s a) with
     | false=>rfl
     | true =>
      have:=A6 _ (List.contains_iff_mem.1 gW)
      rcases h1 with h1 | h1 <;> rw [h1] at this <;> simp only at this
      ·rw [hs] at this;cases this
      ·cases this
    rw [Bool.eq_iff_iff,contains_iff_mem,List.mem_append,<-contains_iff_mem (as:=bH),this];simp
   rw [dL]
  ·rw [if_neg hs] at h |-;rw [K7 hc (by simpa using hs)]
   cases hf:bH.find? (bx s a) with
   | none=>rw [hf] at h;cases h;simp at hk
   | some x =>
    rw [hf] at h;cases h;simp only;have hx:=List.mem_of_find?_eq_some hf
    have bP:x≠[]:=by
     intro h0;subst h0;revert hx;decide
    rw [if_neg bP]
theorem SW {s:ah} {a b:Nat} {ts:List Tok} (h:Tz s a ts b):b=s.length->∀ (f:Nat) (acc:List Tok),s.length < f+a->mY s f a acc=some (acc++ts,0,0):=by
 induction h with
 | nil a =>
  intro hb f acc hf
  cases f with
  | zero=>omega
  | succ f =>
   rw [mY];have:s[a]?=none:=List.getElem?_eq_none_iff.2 ao;rw [this];simp
 | blank hc nf h ih =>
  intro hb f acc hf
  cases f with
  | zero=>have:=(List.getElem?_eq_some_iff.1 hc).1;omega
  | succ f =>
   rw [mY,hc];simp only;rw [if_pos nf];exact ih hb f acc ao
 | tok hc nf hr ht hk hn ha h ih =>
  intro hb f acc hf
  cases f with
  | zero=>have:=(List.getElem?_eq_some_iff.1 hc).1;omega
  | succ f =>
   rw [mY,hc];simp only;rw [if_neg (by rw [nf];decide),if_neg (by rw [hr];decide),TC hc ht hk hn];simp only [ne_eq,not_true_eq_false,if_false];rw [ih hb f _ ao];simp
abbrev ru (ts:List Tok):Prop:=∀ t∈ts,AG t
def EF (t:T):Prop:=∃ a:E,a.ok=true/\er t=a.tree
def Lt (l:List T):Prop:=∃ es:List E,E.cP es=true/\aM l=E.trees es
def Sf (ts r:List Tok) (n:Nat):Prop:=∃ pre,ts=pre++r/\n<=pre.length
theorem Sf.nil (ts:List Tok):Sf ts ts 0:=⟨[],rfl,Nat.zero_le _⟩
theorem Sf.one (t:Tok) (ts:List Tok):Sf (t::ts) ts 1:=⟨[t],rfl,Nat.le_refl _⟩
theorem Sf.trans {a b c:List Tok} {n m:Nat} (h:Sf a b n) (k:Sf b c m):Sf a c (n+m):=by
 obtain ⟨p,rfl,h⟩:=h;obtain ⟨q,rfl,k⟩:=k;exact ⟨p++q,by simp,by rw [length_append];omega⟩
theorem Sf.le {a b:List Tok} {n m:Nat} (h:Sf a b n) (k:m<=n):Sf a b m:=by
 obtain ⟨p,rfl,h⟩:=h;exact ⟨p,rfl,by omega⟩
theorem Sf.ok {a b:List Tok} {n:Nat} (h:Sf a b n) (k:ru a):ru b:=by
 obtain ⟨p,rfl,h⟩:=h
 exact fun t ht=>k t (List.mem_append_right _ ht)
theorem Sf.aL {e:Int} {s:ah} {ts r:List Tok} (hs:s≠[]) (h:aL e s ts=.ok r):Sf ts r 1:=by
 obtain ⟨u,rfl,_⟩:=wv hs h;exact .one u r
theorem Sf.sign {s:ah} {ts:List Tok} (hs:s≠[]) (h:sign ts 0=s):Sf ts ts.tail 1:=by
 obtain ⟨u,h1,_⟩:=tC hs h;rw [h1];exact .one u _
theorem Qq {s:ah} (h:jN s=false):words.contains s=false:=by
 unfold jN at h;rw [yb] at h
 cases hc:words.contains s with
 | false=>rfl
 | true =>
  rw [contains_iff_mem] at hc
  have:(words++bH).contains s=true:=by rw [contains_iff_mem];exact List.mem_append_left _ hc
  rw [h] at this;cases this
theorem W8 {t:Tok} (h:AG t) (hk:t.kind=2) (hl:t.s.length<=12):bp t.s=true:=by
 obtain ⟨h1,h2⟩:=h.name hk;unfold bp;rw [h1,Qq h2];simpa using hl
theorem Sf.name {e:Int} {s:ah} {ts r:List Tok} (h:name e ts=.ok (s,r)) (ho:ru ts):Sf ts r 1/\bp s=true:=by
 obtain ⟨u,rfl,h1,rfl,h3⟩:=F2 h;exact ⟨.one u r,W8 (ho u mem_cons_self) h1 h3⟩
theorem Sd {s:ah} {k:Nat} (h:s∈levels.getD k []):eB s=true:=by
 unfold eB;rw [any_eq_true];rw [List.getD_eq_getElem?_getD] at h
 cases hk:levels[k]? with
 | none=>rw [hk] at h;simp at h
 | some l =>
  rw [hk] at h;exact ⟨l,mem_of_getElem? hk,by rw [contains_iff_mem];exact h⟩
theorem ja (k a:Int) (s:ah) (l:List T):aP (one k a s l)=az l+1:=by unfold one;rw [aP]
theorem Lt.snoc {l:List T} {t:T} (h:Lt l) (k:EF t):Lt (l++[t]):=by
 obtain ⟨es,h1,h2⟩:=h;obtain ⟨a,h3,h4⟩:=k
 have key:∀ es:List E,E.cP es=true->E.cP (es++[a])=true/\E.trees (es++[a])=E.trees es++[a.tree]:=by
  intro es
  induction es with
  | nil=>intro _;simp [E.cP,E.trees,h3]
  | cons b es ih =>
   intro h;simp only [E.cP,Bool.and_eq_true] at h;obtain ⟨k1,k2⟩:=ih h.2;simp only [cons_append,E.cP,E.trees,k1,k2,h.1];simp
 obtain ⟨k1,k2⟩:=key es h1;exact ⟨es++[a],k1,by rw [Ic,h2,k2,aM,aM,h4]⟩
def vi:oy->Nat
 | .loop _ _ out=>aP out
 | _=>0
def jok:oy->Prop
 | .loop _ _ out=>EF out
 | _=>True
theorem Tc (e:Int):∀ f,(∀ j ts t r,ru ts->jok j->rd e f j ts=.ok (t,r)->EF t/\∃ n,Sf ts r n/\aP t<=n+vi j) /\
  (∀ d acc ts l r,ru ts->Lt acc->rd.args e f d acc ts=.ok (l,r)->Lt l/\∃ n,Sf ts r n/\az l+1<=n+az acc):=by
 intro f
 induction f with
 | zero=>exact ⟨fun j ts t r _ _ h=>by simp [rd] at h,fun d acc ts l r _ _ h=>by simp [rd.args] at h⟩
 | succ f ih =>
  obtain ⟨ih,xQ⟩:=ih;refine ⟨fun j ts t r ho hj h=>?_,fun d acc ts l r ho hj h=>?_⟩
  ·cases j with
   | expr d =>
    rw [rd] at h;split at h
    ·cases h
    ·exact ih (.level 0 (d+1)) ts t r ho trivial h
   | level k d =>
    rw [rd] at h;split at h
    ·exact ih (.operand d) ts t r ho trivial h
    ·split at h
     ·cases h
     ·rename_i out iI hx;obtain ⟨h1,n,h2,h3⟩:=ih (.level (k+1) d) ts out iI ho trivial hx;obtain ⟨k1,m,k2,k3⟩:=ih (.loop k d out) iI t r (h2.ok ho) h1 h;exact ⟨k1,n+m,h2.trans k2,by simp only [vi] at *;omega⟩
   | loop k d out =>
    cases ts with
    | nil=>rw [rd] at h;cases h;exact ⟨hj,0,.nil _,by simp only [vi];omega⟩
    | cons t0 r0 =>
     rw [rd] at h;split at h
     ·rename_i hc;split at h
      ·cases h
      ·rename_i b r1 hx;obtain ⟨⟨b',h0,h1⟩,n,h2,h3⟩:=ih (.level (k+1) d) r0 b r1 (fun t ht=>ho t (mem_cons_of_mem _ ht)) trivial hx;obtain ⟨o',h4,h5⟩:=hj;have h6:=(Sf.one t0 r0).trans h2;obtain ⟨k1,m,k2,k3⟩:=ih (.loop k d (one 6 t0.at_ t0.s [out,b])) r1 t r (h6.ok ho) ⟨.bin t0.s o' b',by simp only [E.ok,Sd hc.2,h4,h0];rfl,by rw [dF,aM,aM,aM,h5,h1,E.tree]⟩ h;refine ⟨k1,_,h6.trans k2,?_⟩;simp only [vi,ja,az] at *;omega
     ·cases h;exact ⟨hj,0,.nil _,by simp only [vi];omega⟩
   | operand d =>
    cases ts with
    | nil =>
     rw [rd] at h;split at h <;> cases h
    | cons t0 r0 =>
     rw [rd] at h;split at h
     ·cases h
     ·have XY:ru r0:=fun t ht=>ho t (mem_cons_of_mem _ ht)
      have rE:=Sf.one t0 r0;split at h
      ·split at h
       ·rename_i hu;split at h
        ·cases h
        ·rename_i a r1 hx;cases h;obtain ⟨⟨a',h0,h1⟩,n,h2,h3⟩:=ih (.operand (d+1)) r0 a r XY trivial hx;refine ⟨⟨.un t0.s a',?_,by rw [dF,aM,aM,h1,E.tree]⟩,_,rE.trans h2,?_⟩
         ·simp only [E.ok,h0]
          rcases hu with hu | hu | hu <;> simp [hu]
         ·simp only [vi,ja,az] at *;omega
       ·split at h
        ·split at h
         ·cases h
         ·rename_i a r1 hx;split at h
          ·cases h
          ·rename_i r2 hm;cases h;obtain ⟨h1,n,h2,h3⟩:=ih (.expr (d+1)) r0 t r1 XY trivial hx;exact ⟨h1,_,(rE.trans h2).trans (Sf.aL au hm),by simp only [vi] at *;omega⟩
        ·cases h
      ·split at h
       ·rename_i hk;cases h;obtain ⟨k1,k2,k3⟩:=(ho t0 mem_cons_self).num hk;exact ⟨⟨.num t0.n,by simp only [E.ok];simp [k1,k2],by rw [er,aM,E.tree]⟩,1,rE,by simp only [vi,aP,az];omega⟩
       ·split at h
        ·cases h
        ·rename_i s r1 eL;obtain ⟨k1,k2⟩:=Sf.name eL ho;split at h
         ·rename_i hb;have k3:=k1.trans (Sf.sign au hb);split at h
          ·cases h
          ·rename_i a r2 hx;split at h
           ·cases h
           ·rename_i r3 hm;cases h;obtain ⟨⟨a',h0,h1⟩,n,h2,h3⟩:=ih (.expr (d+1)) _ a r2 (k3.ok ho) trivial hx;refine ⟨⟨.at_ s a',by simp only [E.ok,k2,h0];rfl,by rw [dF,aM,aM,h1,E.tree]⟩,_,(k3.trans h2).trans (Sf.aL au hm),?_⟩;simp only [vi,ja,az] at *;omega
         ·split at h
          ·rename_i hb;have k3:=k1.trans (Sf.sign au hb);split at h
           ·cases h
           ·rename_i l r2 hx;cases h;obtain ⟨⟨es,h0,h1⟩,n,h2,h3⟩:=xQ _ _ _ l r (k3.ok ho) ⟨[],rfl,rfl⟩ hx;refine ⟨⟨.call s es,by simp only [E.ok,k2,h0];rfl,by rw [dF,h1,E.tree]⟩,_,k3.trans h2,?_⟩;simp only [vi,ja,az] at *;omega
          ·cases h;exact ⟨⟨.name s,by simp only [E.ok,k2],by rw [dF,aM,E.tree]⟩,1,k1,by simp only [vi,ja,az];omega⟩
  ·rw [rd.args] at h;split at h
   ·rename_i hc;cases h;exact ⟨hj,1,Sf.sign au hc,by omega⟩
   ·split at h
    ·cases h
    ·rename_i yd hx
     have h0:Sf ts yd 0:=by
      split at hx
      ·cases hx;exact .nil _
      ·exact (Sf.aL au hx).le (Nat.zero_le _)
     split at h
     ·cases h
     ·rename_i a vH hy;obtain ⟨h1,n,h2,h3⟩:=ih (.expr d) yd a vH (h0.ok ho) trivial hy;have h4:=h0.trans h2;obtain ⟨k1,m,k2,k3⟩:=xQ _ (acc++[a]) vH l r (h4.ok ho) (hj.snoc h1) h;refine ⟨k1,_,h4.trans k2,?_⟩;simp only [vi,mQ,az] at *;omega
theorem xp {e:Int} {d:Nat} {ts r:List Tok} {t:T} (ho:ru ts) (h:expr e d ts=.ok (t,r)):EF t/\Sf ts r (aP t):=by
 obtain ⟨h1,n,h2,h3⟩:=(Tc e _).1 (.expr d) ts t r ho trivial h;exact ⟨h1,h2.le (by simpa [vi] using h3)⟩
theorem wc {e:Int} {d:Nat} {a b:ah} {ts r:List Tok} {t:T} (ha:a≠[]) (hb:b≠[]) (ho:ru ts) (h:inner e d a b ts=.ok (t,r)):EF t/\Sf ts r (aP t+2):=by
 unfold inner at h;split at h
 ·cases h
 ·rename_i yd h1;have k1:=Sf.aL ha h1;split at h
  ·cases h
  ·rename_i t' vH h2;obtain ⟨k2,k3⟩:=xp (k1.ok ho) h2;split at h
   ·cases h
   ·rename_i ts3 h3;cases h;exact ⟨k2,((k1.trans k3).trans (Sf.aL hb h3)).le ao⟩
theorem BA {e:Int} {d:Nat} {ts r:List Tok} {s:ah} {t:T} (ho:ru ts) (h:kG e d ts=.ok ((s,t),r)):bp s=true/\EF t/\Sf ts r (aP t+3):=by
 unfold kG at h;split at h
 ·cases h
 ·rename_i s' yd h1;obtain ⟨k1,k2⟩:=Sf.name h1 ho;split at h
  ·cases h
  ·rename_i t' vH h2;cases h;obtain ⟨k3,k4⟩:=wc au au (k1.ok ho) h2;exact ⟨k2,k3,(k1.trans k4).le ao⟩
def SF (t:T):Prop:=∃ a:S,a.ok=true/\er t=a.tree
def LG (l:List T):Prop:=∃ es:List S,S.cP es=true/\aM l=S.trees es
def BF (t:T):Prop:=∃ l:List S,S.cP l=true/\er t=bG l
theorem LG.snoc {l:List T} {t:T} (h:LG l) (k:SF t):LG (l++[t]):=by
 obtain ⟨es,h1,h2⟩:=h;obtain ⟨a,h3,h4⟩:=k
 have key:∀ es:List S,S.cP es=true->S.cP (es++[a])=true/\S.trees (es++[a])=S.trees es++[a.tree]:=by
  intro es
  induction es with
  | nil=>intro _;simp [S.cP,S.trees,h3]
  | cons b es ih =>
   intro h;simp only [S.cP,Bool.and_eq_true] at h;obtain ⟨k1,k2⟩:=ih h.2;simp only [cons_append,S.cP,S.trees,k1,k2,h.1];simp
 obtain ⟨k1,k2⟩:=key es h1;exact ⟨es++[a],k1,by rw [Ic,h2,k2,aM,aM,h4]⟩
theorem Qj {t:T} (h:EF t) (hk:t.n.kind=3):∃ (s:ah) (a:T),t.kids=[a]/\t.n.s=s/\bp s=true/\EF a:=by
 obtain ⟨a,h1,h2⟩:=h;have h3:=congrArg (fun x=>x.n.kind) h2;simp only [xn,hk] at h3
 cases a with
 | at_ s b =>
  simp only [E.ok,Bool.and_eq_true] at h1
  have h4:t.n.s=s:=by have:=congrArg (fun x=>x.n.s) h2;simp only [xn] at this;exact this
  have h5:aM t.kids=[b.tree]:=by rw [<-Sy,h2];rfl
  match hl:t.kids,h5 with
  | [x],h5 =>
   rw [aM,aM] at h5
   injection h5 with h6
   exact ⟨s,x,rfl,h4,h1.1,b,h1.2,h6⟩
  | [],h5=>rw [aM] at h5;cases h5
  | x::y::r,h5=>rw [aM,aM] at h5;injection h5 with h6 h7;cases h7
 | num n=>simp [E.tree,T.n] at h3
 | name n=>simp [E.tree,T.n] at h3
 | call s l=>simp [E.tree,T.n] at h3
 | un s a=>simp [E.tree,T.n] at h3
 | bin s a b=>simp [E.tree,T.n] at h3
theorem HH {e:Int} {d:Nat} {ts r:List Tok} {t:T} (ho:ru ts) (h:simple e d ts=.ok (t,r)):SF t/\Sf ts r (aP t):=by
 unfold simple at h;split at h
 ·split at h <;> cases h
 ·rename_i t0 r0;split at h
  ·split at h
   ·cases h
   ·rename_i s a yd h1;cases h;obtain ⟨k1,⟨a',k2,k3⟩,k4⟩:=BA ho h1;exact ⟨⟨.set s a',by simp only [S.ok,k1,k2];rfl,by rw [dF,aM,aM,k3,S.tree]⟩,k4.le (by simp only [ja,az];omega)⟩
  ·split at h
   ·cases h
   ·rename_i a yd h1;obtain ⟨k1,k2⟩:=xp ho h1;split at h
    ·rename_i hc;split at h
     ·cases h
     ·rename_i v vH h2;cases h;obtain ⟨⟨v',k3,k4⟩,k5⟩:=wc au au (k2.ok ho) h2;obtain ⟨s,x,k6,k7,k8,x',k9,k10⟩:=Qj k1 hc.1;have hz:=eh a;rw [k6] at hz;simp only [az] at hz;rw [k6];refine ⟨⟨.put s x' v',by simp only [S.ok,k8,k9,k3];rfl,?_⟩,(k2.trans k5).le ?_⟩
      ·rw [dF,k7];simp only [take_succ_cons,take_zero,cons_append,nil_append,aM,k10,k4,S.tree]
      ·simp only [take_succ_cons,take_zero,cons_append,nil_append,ja,az];omega
    ·split at h
     ·cases h
     ·rename_i vH h2;cases h;obtain ⟨a',k3,k4⟩:=k1;exact ⟨⟨.do_ a',by simp only [S.ok,k3],by rw [dF,aM,aM,k4,S.tree]⟩,(k2.trans (Sf.aL au h2)).le (by simp only [ja,az];omega)⟩
theorem Tf (e:Int):∀ f,(∀ d ts t r,ru ts->rs e f (.block d) ts=.ok (t,r)->BF t/\Sf ts r (aP t))/\(∀ d ts t r,ru ts->rs e f (.stmt d) ts=.ok (t,r)->SF t/\Sf ts r (aP t)) /\
  (∀ d acc ts l r,ru ts->LG acc->rs.body e f d acc ts=.ok (l,r)->LG l/\∃ n,Sf ts r n/\az l+1<=n+az acc):=by
 intro f
 induction f with
 | zero=>exact ⟨fun d ts t r _ h=>by simp [rs] at h,fun d ts t r _ h=>by simp [rs] at h,fun d acc ts l r _ _ h=>by simp [rs.body] at h⟩
 | succ f ih =>
  obtain ⟨Yd,ihs,Ye⟩:=ih;refine ⟨fun d ts t r ho h=>?_,fun d ts t r ho h=>?_,fun d acc ts l r ho hj h=>?_⟩
  ·rw [rs] at h;split at h
   ·cases h
   ·split at h
    ·cases h
    ·rename_i r1 h1;have k1:=Sf.aL au h1;split at h
     ·cases h
     ·rename_i l r2 h2;cases h;obtain ⟨⟨es,k2,k3⟩,n,k4,k5⟩:=Ye _ [] r1 l r (k1.ok ho) ⟨[],rfl,rfl⟩ h2;exact ⟨⟨es,k2,by rw [dF,k3,bG]⟩,(k1.trans k4).le (by simp only [ja,az] at *;omega)⟩
  ·rw [rs] at h;split at h
   ·cases h
   ·simp only at h;split at h
    ·rename_i hs;have k0:=Sf.sign au hs;split at h
     ·cases h
     ·rename_i s a yd h1;cases h;obtain ⟨k1,⟨a',k2,k3⟩,k4⟩:=BA (k0.ok ho) h1;exact ⟨⟨.var s a',by simp only [S.ok,k1,k2];rfl,by rw [dF,aM,aM,k3,S.tree]⟩,(k0.trans k4).le (by simp only [ja,az];omega)⟩
    ·split at h
     ·rename_i hs
      have k0:Sf ts ts.tail 1:=by
       rcases hs with hs | hs
       ·exact Sf.sign au hs
       ·exact Sf.sign au hs
      split at h
      ·cases h
      ·rename_i c r1 h1;obtain ⟨⟨c',k1,k2⟩,k3⟩:=wc au au (k0.ok ho) h1;have k4:=k0.trans k3;split at h
       ·cases h
       ·rename_i b r2 h2;obtain ⟨⟨lb,k5,k6⟩,k7⟩:=Yd _ _ b r2 (k4.ok ho) h2;have k8:=k4.trans k7;split at h
        ·split at h
         ·rename_i eY;have k9:=k8.trans (Sf.sign au eY);split at h
          ·cases h
          ·rename_i b2 r3 h3;cases h;obtain ⟨⟨lb2,j5,j6⟩,j7⟩:=Yd _ _ b2 r (k9.ok ho) h3;refine ⟨⟨.if2 c' lb lb2,by simp only [S.ok,k1,k5,j5];rfl,?_⟩,(k9.trans j7).le (by simp only [ja,az];omega)⟩;rw [dF,aM,aM,aM,aM,k2,k6,j6,S.tree,bG,bG]
         ·cases h;refine ⟨⟨.if1 c' lb,by simp only [S.ok,k1,k5];rfl,?_⟩,k8.le (by simp only [ja,az];omega)⟩;rw [dF,aM,aM,aM,k2,k6,S.tree,bG]
        ·cases h;refine ⟨⟨.while_ c' lb,by simp only [S.ok,k1,k5];rfl,?_⟩,k8.le (by simp only [ja,az];omega)⟩;rw [dF,aM,aM,aM,k2,k6,S.tree,bG]
     ·split at h
      ·rename_i hs;have k0:=Sf.sign au hs;split at h
       ·cases h
       ·rename_i a yd h1;obtain ⟨⟨a',k1,k2⟩,k3⟩:=xp (k0.ok ho) h1;split at h
        ·cases h
        ·rename_i vH h2;cases h;exact ⟨⟨.ret a',by simp only [S.ok,k1],by rw [dF,aM,aM,k2,S.tree]⟩,((k0.trans k3).trans (Sf.aL au h2)).le (by simp only [ja,az];omega)⟩
      ·exact HH ho h
  ·rw [rs.body] at h;split at h
   ·rename_i hc;cases h;exact ⟨hj,1,Sf.sign au hc,by omega⟩
   ·split at h
    ·cases h
    ·rename_i a yd h1;obtain ⟨k1,k2⟩:=ihs _ ts a yd ho h1;obtain ⟨k3,m,k4,k5⟩:=Ye _ (acc++[a]) yd l r (k2.ok ho) (hj.snoc k1) h;refine ⟨k3,_,k2.trans k4,?_⟩;simp only [mQ,az] at *;omega
theorem JK {e:Int} {d:Nat} {ts r:List Tok} {t:T} (ho:ru ts) (h:block e d ts=.ok (t,r)):BF t/\Sf ts r (aP t):=(Tf e _).1 _ ts t r ho h
end Go.Im
namespace Go.Sp
open Go.Xp
def dY (x:ah) (l:List K):Prop:=∀ pre post:ah,∃ ts,ts.map kf=l/\Tz (pre++(x++post)) pre.length ts (pre.length+x.length)
def gw (x:ah) (l:List K):Prop:=∀ pre post:ah,Sep post->∃ ts,ts.map kf=l/\Tz (pre++(x++post)) pre.length ts (pre.length+x.length)
theorem dY.s {x:ah} {l:List K} (h:dY x l):gw x l:=fun pre post _=>h pre post
theorem dY.app {x y:ah} {l m:List K} (h:dY x l) (k:dY y m):dY (x++y) (l++m):=by
 intro pre post;obtain ⟨ts,h1,h2⟩:=h pre (y++post);obtain ⟨us,h3,h4⟩:=k (pre++x) post;refine ⟨ts++us,by simp [h1,h3],?_⟩;rw [append_assoc] at h4 |-;rw [length_append] at h4 |-;rw [<-Nat.add_assoc];exact h2.app h4
theorem dY.apps {x y:ah} {l m:List K} (h:dY x l) (k:gw y m):gw (x++y) (l++m):=by
 intro pre post hp;obtain ⟨ts,h1,h2⟩:=h pre (y++post);obtain ⟨us,h3,h4⟩:=k (pre++x) post hp;refine ⟨ts++us,by simp [h1,h3],?_⟩;rw [append_assoc] at h4 |-;rw [length_append] at h4 |-;rw [<-Nat.add_assoc];exact h2.app h4
theorem gw.Ez {x y:ah} {l m:List K} (h:gw x l) (k:dY y m) (hs:∀ post,Sep (y++post)):dY (x++y) (l++m):=by
 intro pre post;obtain ⟨ts,h1,h2⟩:=h pre (y++post) (hs post);obtain ⟨us,h3,h4⟩:=k (pre++x) post;refine ⟨ts++us,by simp [h1,h3],?_⟩;rw [append_assoc] at h4 |-;rw [length_append] at h4 |-;rw [<-Nat.add_assoc];exact h2.app h4
theorem dY.nil:dY [] []:=fun pre post=>⟨[],rfl,.nil _⟩
theorem x9 {c:UInt8} {x:ah} (h:c∈CA):∀ post,Sep (c::x++post):=fun post d hd=>by cases hd;exact h
theorem sQ {pre x:ah}:(pre++x).drop pre.length=x:=drop_left
theorem Tz.one {s:ah} {a a':Nat} {c:UInt8} {t:Tok} (hc:s[a]?=some c) (hb:dC c=false) (hr:bx s a [47,42]=false) (ht:iK s a c=(t,a')) (hk:t.kind=1\/t.kind=2\/t.kind=3) (hn:t.n<=2147483647) (ha:a < a'):Tz s a [t] a' :=
 .tok hc hb hr ht hk hn ha (.nil _)
theorem xY {c:UInt8} (h:dC c=true):dY [c] []:=by
 intro pre post;have hd:(pre++([c]++post)).drop pre.length=c::post:=sQ;obtain ⟨h1,_,_⟩:=mM hd;exact ⟨[],rfl,.blank h1 h (.nil _)⟩
theorem l8 {c:UInt8} (hm:c∈[40,41,91,93,44,59,123,125]):dY [c] [kS [c]]:=by
 intro pre post;have hd:(pre++([c]++post)).drop pre.length=c::post:=sQ;obtain ⟨h1,_,h4⟩:=mM hd;obtain ⟨h2,h3,h5⟩:=Pn (Nat.le_of_lt h4) hd hm;exact ⟨[_],rfl,Tz.one h1 h3 h5 h2 (by simp) (by simp) (by simp)⟩
theorem Ag {w:ah} (hm:w∈bH):gw w [kS w]:=by
 intro pre post hp;have hd:(pre++(w++post)).drop pre.length=w++post:=sQ
 have bP:w≠[]:=by rintro rfl;revert hm;decide
 obtain ⟨c,r,hw⟩:=List.exists_cons_of_ne_nil bP;have de:=hd;rw [hw,cons_append] at de;obtain ⟨h1,_,h4⟩:=mM de;rw [<-cons_append,<-hw] at h1 h4;obtain ⟨h2,h3,h5⟩:=Qs (Nat.le_of_lt h4) hd hw hm hp
 have:0 < w.length:=by rw [hw];simp
 exact ⟨[_],rfl,Tz.one h1 h3 h5 h2 (by simp) (by simp) ao⟩
theorem HI {c:UInt8} (h:small c=true):dC c=false/\c≠47:=by
 simp only [small,Bool.and_eq_true] at h;have h1:=of_decide_eq_true h.1;refine ⟨?_,fun h0=>?_⟩
 ·simp only [dC,Bool.or_eq_false_iff,beq_eq_false_iff_ne];omega
 ·subst h0;revert h1;decide
theorem Dz {s r:ah} {a:Nat} {c:UInt8} (h:s.drop a=c::r) (hc:c≠47):bx s a [47,42]=false:=by
 obtain ⟨_,_,h4⟩:=mM h;rw [ux h (Nat.le_of_lt h4)];simp only [List.isPrefixOf]
 have:((47:UInt8)==c)=false:=by rw [beq_eq_false_iff_ne];exact fun h=>hc h.symm
 rw [this,Bool.false_and]
theorem FO {w:ah} (hw:word w=true):gw w [if words.contains w then kS w else kN w]:=by
 intro pre post hp;have hd:(pre++(w++post)).drop pre.length=w++post:=sQ;simp only [word,Bool.and_eq_true,all_eq_true] at hw
 match w,hw,hd with
 | [],hw,_=>simp at hw
 | c::r,hw,hd =>
  obtain ⟨aQ,hs⟩:=hw;have de:=hd;rw [cons_append] at de;obtain ⟨h1,_,h4⟩:=mM de;obtain ⟨h3,h5⟩:=HI hs;have ht:=QQ (Nat.le_of_lt h4) hd rfl hs aQ hp.dP;refine ⟨[_],?_,Tz.one h1 h3 (Dz de h5) ht ?_ (by simp) (by simp)⟩
  ·simp only [List.map_cons,List.map_nil,kf,kS,kN];split <;> rfl
  ·simp only;split <;> simp
theorem jP {w:ah} (hw:bp w=true):gw w [kN w]:=by
 simp only [bp,Bool.and_eq_true,Bool.not_eq_true'] at hw;have:=FO hw.1.1;rw [if_neg (by rw [hw.2];decide)] at this;exact this
theorem NG {w:ah} (hw:w∈words):gw w [kS w]:=by
 have h1:∀ w∈words,word w=true:=by decide
 have:=FO (h1 w hw);rw [if_pos (by simpa using hw)] at this;exact this
theorem I0 {n:Nat} (hn:n<=2147483647):gw (cD n) [kI n]:=by
 intro pre post hp;have hd:(pre++(cD n++post)).drop pre.length=cD n++post:=sQ;obtain ⟨h1,h2,h3⟩:=H5 n;obtain ⟨c,r,hw⟩:=List.exists_cons_of_ne_nil h3;have de:=hd;rw [hw,cons_append] at de;obtain ⟨h4,_,h5⟩:=mM de;rw [<-cons_append,<-hw] at h4 h5;have hc:dV c=true:=h1 c (by rw [hw];exact mem_cons_self)
 have Db:dC c=false/\c≠47:=by
  simp only [dV,Bool.and_eq_true] at hc;have h1:=of_decide_eq_true hc.1;refine ⟨?_,fun h0=>?_⟩
  ·simp only [dC,Bool.or_eq_false_iff,beq_eq_false_iff_ne];omega
  ·subst h0;revert h1;decide
 have ht:=S4 (Nat.le_of_lt h5) hd hw hn hp.dV
 have:0 < (cD n).length:=by rw [hw];simp
 refine ⟨[_],rfl,Tz.one h4 Db.1 ?_ ht (by simp) (by simpa using by omega) ao⟩;have A0:=de;rw [<-cons_append,<-hw] at A0;rw [hw] at A0 |-;exact Dz A0 Db.2
theorem Vr {s:ah} (h:eB s=true):s∈bH:=by
 have hm:s∈levels.flatten:=by
  unfold eB at h;rw [any_eq_true] at h;obtain ⟨l,hl,hc⟩:=h;exact List.mem_flatten.2 ⟨l,hl,by simpa using hc⟩
 have key:∀ s∈levels.flatten,s∈bH:=by decide
 exact key s hm
theorem K9:dY [32] []:=xY au
theorem gw.then {x:ah} {l:List K} (h:gw x l) {c:UInt8} (hm:c∈[40,41,91,93,44,59,123,125]):dY (x++[c]) (l++[kS [c]]) :=
 h.Ez (l8 hm) (x9 (by revert hm;unfold CA;simp only [List.mem_cons,List.not_mem_nil,or_false];rintro (h | h | h | h | h | h | h | h) <;> simp [h]))
theorem gw.sp {x:ah} {l:List K} (h:gw x l):dY (x++[32]) l:=by
 have:=h.Ez K9 (x9 au);rw [append_nil] at this;exact this
theorem gw.eq {x:ah} {l l':List K} (h:gw x l) (e:l=l'):gw x l':=e ▸ h
theorem dY.eq {x:ah} {l l':List K} (h:dY x l) (e:l=l'):dY x l':=e ▸ h
theorem Cj {lv k:Nat} {x:ah} {l:List K} (h:gw x l):gw (qm lv k x) (brk lv k l):=by
 unfold qm brk;split
 ·have:=((l8 (c:=40) au).apps h).then (c:=41) au;exact this.s.eq (by simp)
 ·exact h
mutual
theorem oX:∀ a:E,a.ok=true->gw a.txt a.tk
 | .num n,h=>by
  simp only [E.ok,Bool.and_eq_true] at h;have h1:=of_decide_eq_true h.1;have h2:=of_decide_eq_true h.2;have:=I0 (n:=n.toNat) ao;rw [E.txt,E.tk];rw [Int.toNat_of_nonneg h1] at this;exact this
 | .name s,h=>by rw [E.txt,E.tk];exact jP h
 | .at_ s a,h=>by
  simp only [E.ok,Bool.and_eq_true] at h;rw [E.txt,E.tk];exact ((((jP h.1).then (c:=91) au).apps (oX a h.2)).then (c:=93) au).s.eq (by simp)
 | .call s l,h=>by
  simp only [E.ok,Bool.and_eq_true] at h;rw [E.txt,E.tk];exact ((((jP h.1).then (c:=40) au).apps (WY l h.2)).then (c:=41) au).s.eq (by simp)
 | .un s a,h=>by
  simp only [E.ok,Bool.and_eq_true,Bool.or_eq_true,beq_iff_eq] at h;rw [E.txt,E.tk]
  have hs:s∈bH:=by rcases h.1 with (h | h) | h <;> (rw [h];decide)
  exact ((Ag hs).sp.apps (Cj (oX a h.2))).eq (by simp)
 | .bin s a b,h=>by
  simp only [E.ok,Bool.and_eq_true] at h;rw [E.txt,E.tk];exact ((((Cj (oX a h.1.2)).sp.apps (Ag (Vr h.1.1))).sp).apps (Cj (oX b h.2))).eq (by simp)
theorem WY:∀ l:List E,E.cP l=true->gw (bC (E.cM l)) (E.mH l)
 | [],_=>dY.nil.s
 | a::l,h=>by
  simp only [E.cP,Bool.and_eq_true] at h;rw [E.cM,E.mH,bC];exact RI l h.2 _ _ (oX a h.1)
theorem RI:∀ l:List E,E.cP l=true->∀ x m,gw x m->gw (x++(E.cM l).flatMap fun y=>44::32::y) (m++E.qc l)
 | [],_,x,m,hx=>by rw [E.cM,E.qc];simpa using hx
 | a::l,h,x,m,hx=>by
  simp only [E.cP,Bool.and_eq_true] at h;have h1:=((hx.then (c:=44) au).app K9).apps (oX a h.1);have h2:=RI l h.2 _ _ h1;rw [E.cM,E.qc,flatMap_cons]
  have e1:x++((44::32::a.txt)++(E.cM l).flatMap fun y=>44::32::y)=(x++[44]++[32]++a.txt)++(E.cM l).flatMap fun y=>44::32::y:=by simp
  rw [e1];exact h2.eq (by simp)
end
theorem gw.set {x:ah} {l:List K} (h:gw x l):dY (x++[32,61,32]) (l++[kS [61]]):=by
 have:=(h.sp.apps (Ag (w:=[61]) au)).sp;simpa using this
theorem ub {w:ah} (hw:w∈words):dY (w++[32]) [kS w]:=(NG hw).sp
mutual
theorem WZ:∀ s:S,s.ok=true->dY (s.txt E.txt) s.tk
 | .set s a,h=>by
  simp only [S.ok,Bool.and_eq_true] at h;rw [S.txt,S.tk];exact (((jP h.1).set.apps (oX a h.2)).then (c:=59) au).eq (by simp)
 | .put s a b,h=>by
  simp only [S.ok,Bool.and_eq_true] at h;rw [S.txt,S.tk];have h1:=((((jP h.1).then (c:=91) au).apps (oX a h.2.1)).then (c:=93) au).s.set;have h2:=(h1.apps (oX b h.2.2)).then (c:=59) au
  have e:s++[91]++a.txt++[93,32,61,32]++b.txt++[59]=s++[91]++a.txt++[93]++[32,61,32]++b.txt++[59]:=by simp
  rw [e];exact h2.eq (by simp)
 | .if1 c b,h=>by
  simp only [S.ok,Bool.and_eq_true] at h;rw [S.txt,S.tk];have h1:=((((ub (w:=[105,102]) au).app (l8 (c:=40) au)).apps (oX c h.1)).then (c:=41) au).s.sp;have h2:=h1.app (lexB b h.2)
  have e:[105,102,32,40]++c.txt++[41,32]++(S.cM E.txt [123,32] b++[125])=[105,102]++[32]++[40]++c.txt++[41]++[32]++(S.cM E.txt [123,32] b++[125]):=by simp
  rw [e];exact h2.eq (by simp [dN])
 | .if2 c b b2,h=>by
  simp only [S.ok,Bool.and_eq_true] at h;rw [S.txt,S.tk];have h1:=((((ub (w:=[105,102]) au).app (l8 (c:=40) au)).apps (oX c h.1)).then (c:=41) au).s.sp;have h2:=h1.app (lexB b h.2.1);have h3:=((h2.s.sp.apps (NG (w:=[101,108,115,101]) au)).sp).app (lexB b2 h.2.2)
  have e:[105,102,32,40]++c.txt++[41,32]++(S.cM E.txt [123,32] b++[125])++[32,101,108,115,101,32]++(S.cM E.txt [123,32] b2++[125])=[105,102]++[32]++[40]++c.txt++[41]++[32]++(S.cM E.txt [123,32] b++[125])++[32]++[101,108,115,101]++[32]++(S.cM E.txt [123,32] b2++[125]):=by simp
  rw [e];exact h3.eq (by simp [dN,eg])
 | .while_ c b,h=>by
  simp only [S.ok,Bool.and_eq_true] at h;rw [S.txt,S.tk];have h1:=((((ub (w:=[119,104,105,108,101]) au).app (l8 (c:=40) au)).apps (oX c h.1)).then (c:=41) au).s.sp;have h2:=h1.app (lexB b h.2)
  have e:[119,104,105,108,101,32,40]++c.txt++[41,32]++(S.cM E.txt [123,32] b++[125])=[119,104,105,108,101]++[32]++[40]++c.txt++[41]++[32]++(S.cM E.txt [123,32] b++[125]):=by simp
  rw [e];exact h2.eq (by simp [dv])
 | .ret a,h=>by
  simp only [S.ok] at h;rw [S.txt,S.tk];have h1:=((ub (w:=[114,101,116,117,114,110]) au).apps (oX a h)).then (c:=59) au;exact h1.eq (by simp [dd])
 | .do_ a,h=>by
  simp only [S.ok] at h;rw [S.txt,S.tk];exact (oX a h).then (c:=59) au
 | .var s a,h=>by
  simp only [S.ok,Bool.and_eq_true] at h;rw [S.txt,S.tk];have h1:=((((ub (w:=[118,97,114]) au).apps (jP h.1)).set).apps (oX a h.2)).then (c:=59) au;exact h1.eq (by simp [gn])
theorem lexB:∀ l:List S,S.cP l=true->dY (S.cM E.txt [123,32] l++[125]) (kS [123]::(S.mH l++[kS [125]]))
 | l,h=>by
  have h0:dY [123,32] [kS [123]]:=by
   have:=(l8 (c:=123) au).s.sp;simpa using this
  exact ((RJ l h _ _ h0).s.then (c:=125) au).eq (by simp)
theorem RJ:∀ l:List S,S.cP l=true->∀ acc m,dY acc m->dY (S.cM E.txt acc l) (m++S.mH l)
 | [],_,acc,m,h=>by rw [S.cM,S.mH,append_nil];exact h
 | a::l,ho,acc,m,h=>by
  simp only [S.cP,Bool.and_eq_true] at ho;rw [S.cM,S.mH];have h1:=(h.app (WZ a ho.1)).s.sp;exact (RJ l ho.2 _ _ h1).eq (by simp)
end
theorem dY.all {x:ah} {l:List K} (h:dY x l):∃ ts,ts.map kf=l/\Tz x 0 ts x.length:=by
 obtain ⟨ts,h1,h2⟩:=h [] [];exact ⟨ts,h1,by simpa using h2⟩
theorem IY {l:List S} (h:S.cP l=true):dY (eW E.txt l) (JJ l):=lexB l h
end Go.Sp
namespace Go.Im
open Go.Xp Go.Sp
def MG (s:ah):List K:=[kS lj,kN s,kS [59]]
def HQ (a:Ar):List K:=[kS lj,kN a.name,kS [91],kI a.size,kS [93],kS [59]]
def uF:List ah->List K
 | []=>[]
 | s::r=>kS [44]::kN s::uF r
def F8:List ah->List K
 | []=>[]
 | s::r=>kN s::uF r
def Ij (x:Fn × List S):List K:=kS mF::kN x.1.name::kS [40]::(F8 x.1.params++kS [41]::JJ x.2)
def f2 (x:Fn × List S):ah:=((((([102,117,110,99,32]++x.1.name)++[40])++bC x.1.params)++[41,32])++eW E.txt x.2)++[10]
theorem IZ:dY [59,10] [kS [59]]:=(l8 (c:=59) au).app (xY (c:=10) au)
theorem W2 {s:ah} (h:bp s=true):dY (g1 s) (MG s) :=
 ((ub (w:=lj) au).apps (jP h)).Ez IZ (x9 (c:=59) (x:=[10]) au)
theorem W0 {a:Ar} (h:oq a=true):dY (a1 a) (HQ a):=by
 unfold oq at h;simp only [Bool.and_eq_true,Bool.not_eq_true',decide_eq_false_iff_not] at h;obtain ⟨⟨h1,h2⟩,h3⟩:=h
 have hz:nX a.size=cD a.size.toNat:=by unfold nX;rw [if_neg h2]
 have hk:kI a.size=kI ((a.size.toNat:Nat):Int):=by rw [Int.toNat_of_nonneg ao]
 have x1:=((ub (w:=lj) au).apps (jP h1)).then (c:=91) au;have x2:=x1.apps (I0 (n:=a.size.toNat) ao);have x3:=x2.Ez ((l8 (c:=93) au).app IZ) (x9 (c:=93) (x:=[59,10]) au);unfold a1 HQ;rw [hz,hk];exact x3
theorem NH:∀ (ps:List ah),cx ps=true->∀ x m,gw x m->gw (x++ps.flatMap fun y=>44::32::y) (m++uF ps)
 | [],_,x,m,h=>by rw [List.flatMap_nil,append_nil,uF,append_nil];exact h
 | s::r,hp,x,m,h=>by
  unfold cx at hp;rw [all_cons,Bool.and_eq_true] at hp;have h1:=(h.then (c:=44) au).app K9;have h2:=h1.apps (jP hp.1);have h3:=NH r hp.2 _ _ h2;rw [flatMap_cons,uF];refine gw.eq (cast (congrArg (fun z=>gw z _) ?_) h3) ?_
  ·simp
  ·simp
theorem W3 {ps:List ah} (h:cx ps=true):gw (bC ps) (F8 ps):=by
 match ps,h with
 | [],_=>exact dY.nil.s
 | s::r,h =>
  unfold cx at h;rw [all_cons,Bool.and_eq_true] at h;exact NH r h.2 s [kN s] (jP h.1)
theorem W1 {x:Fn × List S} (h1:bp x.1.name=true) (h2:cx x.1.params=true) (h3:S.cP x.2=true):dY (f2 x) (Ij x):=by
 have x1:=((ub (w:=mF) au).apps (jP h1)).then (c:=40) au;have x2:=(x1.apps (W3 h2)).Ez ((l8 (c:=41) au).app K9) (x9 (c:=41) (x:=[32]) au);have x3:=(x2.app (IY h3)).app (xY (c:=10) au);refine dY.eq x3 ?_;simp [Ij]
theorem yG {α:Type} {f:α->ah} {k:α->List K}:∀ (l:List α),(∀ x∈l,dY (f x) (k x))->∀ acc m,dY acc m->dY (dj f acc l) (m++l.flatMap k)
 | [],_,acc,m,h=>by rw [dj,List.flatMap_nil,append_nil];exact h
 | x::l,hl,acc,m,h=>by
  rw [dj,flatMap_cons,<-append_assoc];exact yG l (fun y hy=>hl y (mem_cons_of_mem _ hy)) _ _ (h.app (hl x mem_cons_self))
theorem LY {inl:List ah->Nat->ah}:∀ (fns:List Fn) (l:List T) (ls:List (List S)) (acc:ah),ls.length=l.length->(∀ (i:Nat) t b,l[i]?=some t->ls[i]?=some b->nb cQ inl 0 t=eW E.txt b) ->
  dj (f1 cQ inl) acc (fns.zip l)=dj f2 acc (fns.zip ls)
 | [],l,ls,acc,_,_=>by simp [dj]
 | f::r,[],[],acc,_,_=>by simp [dj]
 | f::r,t::l,b::ls,acc,hl,h=>by
  have h0:=h 0 t b rfl rfl;rw [zip_cons_cons,zip_cons_cons,dj,dj,LY r l ls _ (by simpa using hl) fun i t' b' h1 h2=>h (i+1) t' b' (by simpa using h1) (by simpa using h2)];simp only [f1,f2,h0]
 | f::r,[],b::ls,acc,hl,_=>by simp at hl
 | f::r,t::l,[],acc,hl,_=>by simp at hl
section
variable {p q:RS} {ts r rest:List Tok} {u:Tok} {s:ah}
theorem qf (h:On p (u::r)):tok p 0=u:=by rw [On.tok h];rfl
theorem Ad (h:On p (u::r)) (hk:kf u=kS s):is p 0 s=true:=by
 obtain ⟨h1,h2⟩:=dU hk;unfold is;rw [qf h,h1,h2];simp
theorem Kh (h:On p (u::r)) {k:K} (hk:kf u=k) (hn:k.1=3->k.2.2≠s):is p 0 s=false:=by
 unfold is;rw [qf h];subst hk
 by_cases h3:u.kind=3
 ·have:=hn h3;simp only [kf] at this;simp [h3,this]
 ·simp [h3]
theorem tH (h:On p (u::r)) (hk:kf u=kS s):want p s=p.next:=by unfold want;rw [if_pos h.code,if_pos (Ad h hk)]
theorem x5 (h:On p (u::r)) (hk:kf u=kN s) (hl:bp s=true):bm p=p.next:=by
 obtain ⟨h1,h2⟩:=pW hk;have:=l9 hl;unfold bm;rw [if_pos h.code,qf h,if_pos h1,if_neg (by rw [h2];omega)]
theorem nx (h:On p (u::r)):On p.next r:=h.next.1
theorem ek (h:On p (u::r)):p.next.l=p.l/\p.next.e=p.e:=⟨h.next.2.1,h.next.2.2⟩
theorem ZJ (h:On p (u::r)):p.i < p.l.length:=by
 have:=congrArg List.length h.rest;rw [length_drop,length_cons] at this;omega
theorem Vu (h:On p []):¬ p.i < p.l.length:=by
 have:=congrArg List.length h.rest;rw [length_drop,length_nil] at this;omega
theorem II {G f:Nat} {st:PS} (h:p.code≠0) (hg:1<=G):nj G f p st=some (p,st):=by
 obtain ⟨G,rfl⟩:∃ g',G=g'+1:=⟨G - 1,by omega⟩;rw [nj,if_neg (fun hc=>h hc.1)]
theorem yF {f:Nat} {acc:List ah} (h:p.code≠0) (hg:1<=f):oK f acc p=some (acc,p):=by
 obtain ⟨f,rfl⟩:∃ g',f=g'+1:=⟨f - 1,by omega⟩;rw [oK,if_neg (fun hc=>h hc.1),fE h]
end
theorem ZD {f:Nat} {p:RS} {st:PS} {ts rest:List Tok} {s:ah} (hp:On p (ts++rest)) (ht:ts.map kf=MG s) (hs:bp s=true) :
  ∃ q,iW f p st=some (q,{ st with globals:=st.globals++[s] })/\bF p q (.ok rest):=by
 obtain ⟨u,r,rfl,h1,ht⟩:=map_cons ht;obtain ⟨v,r,rfl,h2,ht⟩:=map_cons ht;obtain ⟨w,rfl,h3⟩:=gR ht;simp only [cons_append,nil_append] at hp;have p1:=nx hp;have p2:=nx p1;have p3:=nx p2;refine ⟨p.next.next.next,?_,p3,by rw [(ek p2).1,(ek p1).1,(ek hp).1],by rw [(ek p2).2,(ek p1).2,(ek hp).2]⟩;unfold iW;rw [if_pos (Ad hp h1),x5 p1 h2 hs,Kh p2 h3 au,if_neg (by rintro ⟨_,h⟩;cases h),tH p2 h3,qf p1,(pW h2).2]
theorem ZB {f:Nat} {p:RS} {st:PS} {ts rest:List Tok} {a:Ar} (hp:On p (ts++rest)) (ht:ts.map kf=HQ a) (hs:bp a.name=true) :
  ∃ q,iW f p st=some (q,{ st with arrays:=st.arrays++[a] })/\bF p q (.ok rest):=by
 obtain ⟨u,r,rfl,h1,ht⟩:=map_cons ht;obtain ⟨v,r,rfl,h2,ht⟩:=map_cons ht;obtain ⟨w,r,rfl,h3,ht⟩:=map_cons ht;obtain ⟨x,r,rfl,h4,ht⟩:=map_cons ht;obtain ⟨y,r,rfl,h5,ht⟩:=map_cons ht;obtain ⟨z,rfl,h6⟩:=gR ht;simp only [cons_append,nil_append] at hp;have p1:=nx hp;have p2:=nx p1;have p3:=nx p2;have p4:=nx p3;have p5:=nx p4;have p6:=nx p5;refine ⟨p.next.next.next.next.next.next,?_,p6,by rw [(ek p5).1,(ek p4).1,(ek p3).1,(ek p2).1,(ek p1).1,(ek hp).1],by rw [(ek p5).2,(ek p4).2,(ek p3).2,(ek p2).2,(ek p1).2,(ek hp).2]⟩;unfold iW;rw [if_pos (Ad hp h1),x5 p1 h2 hs,if_pos ⟨p2.code,Ad p2 h3⟩,qf p3,if_pos (PL h4).1,tH p4 h5,tH p5 h6,qf p1,(pW h2).2,(PL h4).2]
theorem RC {rest:List Tok} {u:Tok} (hu:kf u=kS [41]):∀ (ps:List ah) (f:Nat) (acc:List ah) (p:RS) (ts:List Tok),ps.length < f->acc≠[]->cx ps=true->On p (ts++u::rest)->ts.map kf=uF ps ->
  ∃ q,oK f acc p=some (acc++ps,q)/\bF p q (.ok rest)
 | [],f,acc,p,ts,hf,ha,_,hp,ht=>by
  obtain ⟨f,rfl⟩:∃ g',f=g'+1:=⟨f - 1,by omega⟩
  have:ts=[]:=by simpa [uF] using ht
  subst this;rw [nil_append] at hp;refine ⟨p.next,?_,nx hp,ek hp⟩;rw [oK,if_neg (by rw [Ad hp hu];rintro ⟨_,h⟩;cases h),tH hp hu,append_nil]
 | s::ps,f,acc,p,ts,hf,ha,hn,hp,ht=>by
  obtain ⟨f,rfl⟩:∃ g',f=g'+1:=⟨f - 1,by omega⟩;rw [uF] at ht;obtain ⟨v,r,rfl,h1,ht⟩:=map_cons ht;obtain ⟨w,r,rfl,h2,ht⟩:=map_cons ht;unfold cx at hn;rw [all_cons,Bool.and_eq_true] at hn;simp only [cons_append] at hp;have p1:=nx hp;have p2:=nx p1
  have hal:acc.length≠0:=fun h=>ha (eq_nil_of_length_eq_zero h)
  rw [length_cons] at hf
  obtain ⟨q,h3,h4⟩:=RC hu ps f (acc++[s]) p.next.next r ao (by simp) hn.2 p2 ht
  refine ⟨q,?_,h4.1,by rw [h4.2.1,(ek p1).1,(ek hp).1],by rw [h4.2.2,(ek p1).2,(ek hp).2]⟩;rw [oK,if_pos ⟨hp.code,Kh hp h1 au⟩,if_neg hal,tH hp h1,qf p1,(pW h2).2,x5 p1 h2 hn.1,h3];simp
theorem WO {rest:List Tok} {u:Tok} (hu:kf u=kS [41]) (ps:List ah) (f:Nat) (p:RS) (ts:List Tok) (hf:ps.length < f) (hn:cx ps=true) (hp:On p (ts++u::rest)) (ht:ts.map kf=F8 ps) :
  ∃ q,oK f [] p=some (ps,q)/\bF p q (.ok rest):=by
 obtain ⟨f,rfl⟩:∃ g',f=g'+1:=⟨f - 1,by omega⟩
 match ps,hn,ht,hf with
 | [],_,ht,_ =>
  have:ts=[]:=by simpa [F8] using ht
  subst this;rw [nil_append] at hp;refine ⟨p.next,?_,nx hp,ek hp⟩;rw [oK,if_neg (by rw [Ad hp hu];rintro ⟨_,h⟩;cases h),tH hp hu]
 | s::ps,hn,ht,hf =>
  rw [F8] at ht;obtain ⟨w,r,rfl,h2,ht⟩:=map_cons ht;unfold cx at hn;rw [all_cons,Bool.and_eq_true] at hn;simp only [cons_append] at hp;have p2:=nx hp;rw [length_cons] at hf
  obtain ⟨q,h3,h4⟩:=RC hu ps f ([]++[s]) p.next r ao (by simp) hn.2 p2 ht
  refine ⟨q,?_,h4.1,by rw [h4.2.1,(ek hp).1],by rw [h4.2.2,(ek hp).2]⟩;rw [oK,if_pos ⟨hp.code,Kh hp h2 (fun h=>by cases h)⟩,if_pos (by rfl),qf hp,(pW h2).2,x5 hp h2 hn.1,h3];rfl
def fW (p:RS):Nat:=40 * p.l.length+100
theorem F9:∀ ps:List ah,ps.length<=(uF ps).length
 | []=>Nat.zero_le _
 | s::r=>by have:=F9 r;rw [uF,length_cons,length_cons,length_cons];omega
theorem S7 (ps:List ah):ps.length<=(F8 ps).length:=by
 cases ps with
 | nil=>exact Nat.zero_le _
 | cons s r=>have:=F9 r;rw [F8,length_cons,length_cons];omega
theorem On.len {p:RS} {ts:List Tok} (h:Go.Sp.On p ts):ts.length<=p.l.length:=by
 rw [<-h.rest,length_drop];omega
theorem Vh {f:Nat} {q:RS} {ts:List Tok} (hq:Go.Sp.On q ts) (hs:sI q.l) (hf:fW q<=f):∃ t q',iS f (.block 1) q=some (t,q')/\iQ q q' t (block q.e 1 ts):=by
 obtain ⟨t,q',h1,h2⟩:=(is_ (mq ts)).block 1 ts q hq hs vM;have:=On.len hq;exact ⟨t,q',h1 f (by unfold KI mq;unfold fW at hf;omega),h2⟩
theorem ZC {f:Nat} {p:RS} {st:PS} {ts rest:List Tok} {x:Fn × List S} (hp:On p (ts++rest)) (hs:sI p.l) (hf:fW p<=f) (ht:ts.map kf=Ij x) (h1:bp x.1.name=true) (h2:cx x.1.params=true) (h3:S.cP x.2=true) :
  (ew x.2 1=true->∃ q t,iW f p st=some (q,{ st with trees:=st.trees++[t],fns:=st.fns++[(x.1.name,x.1.params)] })/\er t=bG x.2/\bF p q (.ok rest)) /\
  (ew x.2 1=false->∃ q dT,iW f p st=some (q,dT)/\q.code≠0):=by
 obtain ⟨u,r,rfl,k1,ht⟩:=map_cons ht;obtain ⟨v,r,rfl,k2,ht⟩:=map_cons ht;obtain ⟨w,r,rfl,k3,ht⟩:=map_cons ht;obtain ⟨A,r,rfl,k4,ht⟩:=dc ht;obtain ⟨y,r,rfl,k5,ht⟩:=map_cons ht;simp only [cons_append,append_assoc] at hp;have p1:=nx hp;have p2:=nx p1;have p3:=nx p2
 have hl:p.next.next.next.l=p.l:=by rw [(ek p2).1,(ek p1).1,(ek hp).1]
 have hA:x.1.params.length<=A.length:=by have:=S7 x.1.params;rw [<-k4,length_map] at this;exact this
 have cR:=On.len p3;simp only [length_append] at cR;rw [hl] at cR
 have UJ:x.1.params.length < f:=by unfold fW at hf;omega
 obtain ⟨q,h4,h5⟩:=WO k5 x.1.params f p.next.next.next A UJ h2 p3 k4
 have qv:q.l=p.l:=h5.2.1.trans hl;obtain ⟨t,q',h6,h7⟩:=Vh (f:=f) h5.1 (by rw [qv];exact hs) (by unfold fW at hf |-;rw [qv];exact hf);obtain ⟨r1,r2⟩:=EC (e:=q.e) (d:=1) (rest:=rest) h3 ht
 have hw:iW f p st=some (q',{ st with trees:=st.trees++[t],fns:=st.fns++[(x.1.name,x.1.params)] }):=by
  unfold iW;rw [if_neg (by rw [Kh hp k1 au];decide),if_pos (Ad hp k1),x5 p1 k2 h1,tH p2 k3,h4];simp only;rw [if_pos h5.1.code,h6,qf p1,(pW k2).2]
 refine ⟨fun uC=>?_,fun uC=>?_⟩
 ·obtain ⟨t',j1,j2⟩:=r1 uC;rw [j2] at h7;obtain ⟨rfl,j3⟩:=h7;exact ⟨q',t,hw,j1,j3.1,j3.2.1.trans qv,j3.2.2.trans (h5.2.2.trans (by rw [(ek p2).2,(ek p1).2,(ek hp).2]))⟩
 ·obtain ⟨pos,j2⟩:=r2 uC;rw [j2] at h7;exact ⟨q',_,hw,bF.err h7⟩
theorem qJ {G f:Nat} {p q:RS} {st dT:PS} {u:Tok} {r:List Tok} (hp:On p (u::r)) (h:iW f p st=some (q,dT)):nj (G+1) f p st=nj G f q dT:=by
 rw [nj,if_pos ⟨hp.code,ZJ hp⟩,h]
theorem RF {f:Nat} {rest:List Tok}:∀ (gs:List ah) (p:RS) (st:PS) (ts:List Tok),On p (ts++rest)->ts.map kf=gs.flatMap MG->cx gs=true ->
  ∃ q,bF p q (.ok rest)/\∀ G,nj (G+gs.length) f p st=nj G f q { st with globals:=st.globals++gs }
 | [],p,st,ts,hp,ht,_=>by
  have:ts=[]:=by simpa using ht
  subst this;exact ⟨p,On.self hp,fun G=>by simp⟩
 | s::gs,p,st,ts,hp,ht,hn=>by
  rw [flatMap_cons] at ht;obtain ⟨A,B,rfl,h1,h2⟩:=dc ht;unfold cx at hn;rw [all_cons,Bool.and_eq_true] at hn;rw [append_assoc] at hp;obtain ⟨q,h3,h4⟩:=ZD (f:=f) (st:=st) hp h1 hn.1;obtain ⟨q',h5,h6⟩:=RF gs q { st with globals:=st.globals++[s] } B h4.1 h2 hn.2;refine ⟨q',h4.tr h5,fun G=>?_⟩;obtain ⟨u,r,rfl,_,_⟩:=map_cons h1;rw [length_cons,<-Nat.add_assoc,qJ hp h3,h6];simp
theorem RD {f:Nat} {rest:List Tok}:∀ (as:List Ar) (p:RS) (st:PS) (ts:List Tok),On p (ts++rest)->ts.map kf=as.flatMap HQ->as.all oq=true ->
  ∃ q,bF p q (.ok rest)/\∀ G,nj (G+as.length) f p st=nj G f q { st with arrays:=st.arrays++as }
 | [],p,st,ts,hp,ht,_=>by
  have:ts=[]:=by simpa using ht
  subst this;exact ⟨p,On.self hp,fun G=>by simp⟩
 | s::gs,p,st,ts,hp,ht,hn=>by
  rw [flatMap_cons] at ht;obtain ⟨A,B,rfl,h1,h2⟩:=dc ht;rw [all_cons,Bool.and_eq_true] at hn;rw [append_assoc] at hp
  have eL:bp s.name=true:=by have:=hn.1;unfold oq at this;simp only [Bool.and_eq_true] at this;exact this.1.1
  obtain ⟨q,h3,h4⟩:=ZB (f:=f) (st:=st) hp h1 eL;obtain ⟨q',h5,h6⟩:=RD gs q { st with arrays:=st.arrays++[s] } B h4.1 h2 hn.2;refine ⟨q',h4.tr h5,fun G=>?_⟩;obtain ⟨u,r,rfl,_,_⟩:=map_cons h1;rw [length_cons,<-Nat.add_assoc,qJ hp h3,h6];simp
def Wc (x:Fn × List S):Prop:=bp x.1.name=true/\cx x.1.params=true/\S.cP x.2=true
theorem RE {f:Nat}:∀ (xs:List (Fn × List S)) (p:RS) (st:PS) (ts:List Tok),On p ts->sI p.l->fW p<=f->ts.map kf=xs.flatMap Ij->(∀ x∈xs,Wc x) ->
  ((xs.all fun x=>ew x.2 1)=true->∃ q l,(∀ G,xs.length < G->nj G f p st=some (q,{ st with trees:=st.trees++l,fns:=st.fns++xs.map fun x=>(x.1.name,x.1.params) }))/\q.code=0/\aM l=xs.map fun x=>bG x.2) /\
  ((xs.all fun x=>ew x.2 1)=false->∃ q dT,(∀ G,xs.length < G->nj G f p st=some (q,dT))/\q.code≠0)
 | [],p,st,ts,hp,_,_,ht,_=>by
  have:ts=[]:=by simpa using ht
  subst this;refine ⟨fun _=>⟨p,[],fun G hG=>?_,hp.code,by rw [aM];rfl⟩,fun h=>by cases h⟩;obtain ⟨G,rfl⟩:∃ g',G=g'+1:=⟨G - 1,by rw [length_nil] at hG;omega⟩;rw [nj,if_neg (fun hc=>Vu hp hc.2)];simp
 | x::xs,p,st,ts,hp,hs,hf,ht,hx=>by
  rw [flatMap_cons] at ht;obtain ⟨A,B,rfl,h1,h2⟩:=dc ht;obtain ⟨x1,x2,x3⟩:=hx x mem_cons_self;obtain ⟨k1,k2⟩:=ZC (st:=st) hp hs hf h1 x1 x2 x3
  have bP:∃ u r,A++B=u::r:=by obtain ⟨u,r,rfl,_,_⟩:=map_cons h1;exact ⟨u,_,rfl⟩
  obtain ⟨u,r,hu⟩:=bP;rw [hu] at hp
  cases hb:ew x.2 1 with
  | false =>
   obtain ⟨q,dT,k3,k4⟩:=k2 hb;refine ⟨fun h=>(by rw [all_cons,hb] at h;cases h),fun _=>⟨q,dT,fun G hG=>?_,k4⟩⟩;obtain ⟨G,rfl⟩:∃ g',G=g'+1:=⟨G - 1,by rw [length_cons] at hG;omega⟩;rw [qJ hp k3,II k4 (by rw [length_cons] at hG;omega)]
  | true =>
   obtain ⟨q,t,k3,k4,k5⟩:=k1 hb;have qv:q.l=p.l:=k5.2.1;obtain ⟨j1,j2⟩:=RE (f:=f) xs q { st with trees:=st.trees++[t],fns:=st.fns++[(x.1.name,x.1.params)] } B k5.1 (by rw [qv];exact hs) (by unfold fW at hf |-;rw [qv];exact hf) h2 (fun y hy=>hx y (mem_cons_of_mem _ hy));rw [all_cons,hb,Bool.true_and];refine ⟨fun h=>?_,fun h=>?_⟩
   ·obtain ⟨q',l,j3,j4,j5⟩:=j1 h;refine ⟨q',t::l,fun G hG=>?_,j4,by rw [aM,k4,j5];rfl⟩;obtain ⟨G,rfl⟩:∃ g',G=g'+1:=⟨G - 1,by rw [length_cons] at hG;omega⟩;rw [qJ hp k3,j3 G (by rw [length_cons] at hG;omega)];simp
   ·obtain ⟨q',dT,j3,j4⟩:=j2 h;refine ⟨q',dT,fun G hG=>?_,j4⟩;obtain ⟨G,rfl⟩:∃ g',G=g'+1:=⟨G - 1,by rw [length_cons] at hG;omega⟩;rw [qJ hp k3,j3 G (by rw [length_cons] at hG;omega)]
theorem NW (G:List ah) (As:List Ar) (xs:List (Fn × List S)) (h1:cx G=true) (h2:As.all oq=true) (h3:∀ x∈xs,Wc x) :
  ∃ ts,Tz (dj f2 (dj a1 (dj g1 [] G) As) xs) 0 ts (dj f2 (dj a1 (dj g1 [] G) As) xs).length /\
  (sI ts->∀ (e:Int) (g f:Nat),ts.length+1<=g->40 * ts.length+100<=f ->
   ((xs.all fun x=>ew x.2 1)=true->∃ q l,nj g f ⟨ts,0,e,0,0⟩ .empty=some (q,⟨l,G,As,xs.map fun x=>(x.1.name,x.1.params)⟩)/\q.code=0/\aM l=xs.map fun x=>bG x.2) /\
   ((xs.all fun x=>ew x.2 1)=false->∃ q dT,nj g f ⟨ts,0,e,0,0⟩ .empty=some (q,dT)/\q.code≠0)):=by
 have l1:=yG (f:=g1) (k:=MG) G (fun s hs=>W2 (List.all_eq_true.1 h1 s hs)) [] [] dY.nil;have l2:=yG (f:=a1) (k:=HQ) As (fun s hs=>W0 (List.all_eq_true.1 h2 s hs)) _ _ l1;have l3:=yG (f:=f2) (k:=Ij) xs (fun x hx=>by obtain ⟨a,b,c⟩:=h3 x hx;exact W1 a b c) _ _ l2;obtain ⟨ts,k1,k2⟩:=l3.all;refine ⟨ts,k2,fun hs e g f hg hf=>?_⟩;rw [nil_append] at k1;obtain ⟨A,C,rfl,k3,k4⟩:=dc k1;obtain ⟨A,B,rfl,k5,k6⟩:=dc k3;have Df:On ⟨(A++B)++C,0,e,0,0⟩ (A++(B++C)):=⟨rfl,Nat.zero_le _,by simp,k2.kinds⟩;obtain ⟨q1,j1,j2⟩:=RF (f:=f) G _ .empty A Df k5 h1;obtain ⟨q2,j3,j4⟩:=RD (f:=f) As q1 _ B j1.1 k6 h2;have qv:q2.l=(A++B)++C:=(j1.tr j3).2.1;obtain ⟨j5,j6⟩:=RE (f:=f) xs q2 { ({ PS.empty with globals:=PS.empty.globals++G }:PS) with arrays:=PS.empty.arrays++As } C j3.1 (by rw [qv];exact hs) (by unfold fW;rw [qv];exact hf) k4 h3
 have c1:G.length<=A.length:=by
  have:=congrArg List.length k5;rw [length_map] at this;rw [this];clear this k5 j1 j2 j3 j4 j5 j6 qv Df hs k1 k2 k3 l1 l2 l3 hf hg h1
  induction G with
  | nil=>exact Nat.le_refl _
  | cons s G ih=>rw [flatMap_cons,length_append,length_cons];simp only [MG,length_cons,length_nil];omega
 have c2:As.length<=B.length:=by
  have:=congrArg List.length k6;rw [length_map] at this;rw [this];clear this k6 j1 j2 j3 j4 j5 j6 qv Df hs k1 k2 k3 l1 l2 l3 hf hg h2
  induction As with
  | nil=>exact Nat.le_refl _
  | cons s G ih=>rw [flatMap_cons,length_append,length_cons];simp only [HQ,length_cons,length_nil];omega
 have c3:xs.length<=C.length:=by
  have:=congrArg List.length k4;rw [length_map] at this;rw [this];clear this k4 j1 j2 j3 j4 j5 j6 qv Df hs k1 k2 k3 l1 l2 l3 hf hg h3
  induction xs with
  | nil=>exact Nat.le_refl _
  | cons s G ih=>rw [flatMap_cons,length_append,length_cons];simp only [Ij,length_cons];omega
 rw [length_append,length_append] at hg;have mV:∃ g',xs.length < g'/\g=g'+As.length+G.length:=⟨g - As.length - G.length,by omega,by omega⟩;obtain ⟨g',lr,rfl⟩:=mV;rw [j2,j4];refine ⟨fun h=>?_,fun h=>?_⟩
 ·obtain ⟨q,l,j7,j8,j9⟩:=j5 h;exact ⟨q,l,j7 g' lr,j8,j9⟩
 ·obtain ⟨q,dT,j7,j8⟩:=j6 h;exact ⟨q,dT,j7 g' lr,j8⟩
structure BL (st:PS):Prop where
 globals:cx st.globals=true
 arrays:st.arrays.all oq=true
 fns:∀ x∈st.fns,bp x.1=true/\cx x.2=true
 trees:∀ t∈st.trees,BF t
 len:st.fns.length=st.trees.length
theorem zw {a b:List ah} (h:cx a=true) (k:cx b=true):cx (a++b)=true:=by
 unfold cx at *;rw [List.all_append,h,k];rfl
theorem zx {s:ah} (h:bp s=true):cx [s]=true:=by
 unfold cx;rw [all_cons,h];rfl
theorem Sf.len {a b:List Tok} {n:Nat} (h:Sf a b n):b.length+n<=a.length:=by
 obtain ⟨p,rfl,h⟩:=h;rw [length_append];omega
theorem IG:∀ (f:Nat) (acc:List ah) (p:RS) (ts:List Tok),On p ts->ru ts->ts.length+1 < f->cx acc=true ->
  ∃ l q,oK f acc p=some (l,q)/\((∃ r n,bF p q (.ok r)/\cx l=true/\Sf ts r n)\/q.code≠0)
 | 0,acc,p,ts,_,_,hf,_=>by omega
 | f+1,acc,p,ts,hp,ho,hf,hn=>by
  rw [oK]
  by_cases hc:p.code=0/\is p 0 [41]=false
  ·rw [if_pos hc]
   have lf:(∃ r,bF p (if acc.length=0 then p else want p [44]) (.ok r)/\Sf ts r 0)\/(if acc.length=0 then p else want p [44]).code≠0:=by
    by_cases ha:acc.length=0
    ·rw [if_pos ha];exact .inl ⟨ts,On.self hp,.nil _⟩
    ·rw [if_neg ha]
     rcases lM hp (s:=[44]) au with ⟨r,h1,h2⟩ | ⟨x,h1,h2⟩
     ·exact .inl ⟨r,h2,(Sf.aL au h1).le (Nat.zero_le _)⟩
     ·exact .inr (bF.err h2)
   generalize (if acc.length=0 then p else want p [44])=p' at *
   rcases lf with ⟨r,h1,h2⟩ | h1
   ·rcases tt h1.1 with ⟨r2,h3,h4⟩ | ⟨x,h3,h4⟩
    ·obtain ⟨k1,k2⟩:=Sf.name h3 (h2.ok ho);have hlen:=(h2.trans k1).len;obtain ⟨l,q,k3,k4⟩:=IG f (acc++[(tok p' 0).s]) (bm p') r2 h4.1 ((h2.trans k1).ok ho) ao (zw hn (zx k2));refine ⟨l,q,k3,?_⟩
     rcases k4 with ⟨r3,n,k5,k6,k7⟩ | k5
     ·exact .inl ⟨r3,_,(h1.tr h4).tr k5,k6,(h2.trans k1).trans k7⟩
     ·exact .inr k5
    ·exact ⟨_,_,yF (bF.err h4) ao,.inr (bF.err h4)⟩
   ·rw [NN h1];exact ⟨_,_,yF h1 ao,.inr h1⟩
  ·rw [if_neg hc]
   rcases lM hp (s:=[41]) au with ⟨r,h1,h2⟩ | ⟨x,h1,h2⟩
   ·exact ⟨acc,_,rfl,.inl ⟨r,1,h2,hn,Sf.aL au h1⟩⟩
   ·exact ⟨acc,_,rfl,.inr (bF.err h2)⟩
theorem Vj {f:Nat} {p:RS} {st:PS} {u:Tok} {r0:List Tok} (hp:On p (u::r0)) (ho:ru (u::r0)) (hs:sI p.l) (hf:fW p<=f) (cq:BL st) :
  ∃ q dT,iW f p st=some (q,dT)/\((∃ r n,bF p q (.ok r)/\BL dT/\Sf (u::r0) r (n+1)/\az dT.trees<=n+1+az st.trees)\/q.code≠0):=by
 have p1:=nx hp;have gz:=Sf.one u r0;unfold iW
 by_cases h1:is p 0 lj=true
 ·rw [if_pos h1]
  rcases tt p1 with ⟨r1,a1,a2⟩ | ⟨x,a1,a2⟩
  ·obtain ⟨b1,b2⟩:=Sf.name a1 (gz.ok ho);have b3:=gz.trans b1;have a3:bF p (bm p.next) (.ok r1):=(On.next hp).tr a2
   by_cases h2:(bm p.next).code=0/\is (bm p.next) 0 [91]=true
   ·rw [if_pos h2]
    have h3:sign r1 0=[91]:=by
     have:=On.is a2.1 0 (s:=[91]) au;rw [h2.2] at this;simpa using this.symm
    obtain ⟨v,h4,_⟩:=tC au h3;have b4:=b3.trans (Sf.sign au h3);have p2:=a2.1;rw [h4] at p2
    have a4:bF p (bm p.next).next (.ok r1.tail):=a3.tr (On.next p2)
    have p3:=nx p2
    by_cases h5:(tok (bm p.next).next 0).kind=1
    ·rw [if_pos h5]
     cases hr:r1.tail with
     | nil =>
      rw [hr] at p3;have:=On.tok p3 0;rw [this] at h5;cases h5
     | cons w r3 =>
      rw [hr] at p3 a4 b4;have p4:=nx p3;have b5:=b4.trans (Sf.one w r3);have a5:=a4.tr (On.next p3);rw [qf p3] at h5;have hw:=(b4.ok ho w mem_cons_self).num h5
      rcases lM p4 (s:=[93]) au with ⟨r4,c1,c2⟩ | ⟨x,c1,c2⟩
      ·rcases lM c2.1 (s:=[59]) au with ⟨r5,d1,d2⟩ | ⟨x,d1,d2⟩
       ·refine ⟨_,_,rfl,.inl ⟨r5,0,(a5.tr c2).tr d2,⟨cq.globals,?_,cq.fns,cq.trees,cq.len⟩,((b5.trans (Sf.aL au c1)).trans (Sf.aL au d1)).le ao,by simp only;omega⟩⟩;simp only;rw [List.all_append,cq.arrays,all_cons,List.all_nil,Bool.and_true,Bool.true_and];unfold oq;rw [qf p3,b2];simp only [Bool.and_eq_true,Bool.not_eq_true',decide_eq_false_iff_not];exact ⟨⟨trivial,by omega⟩,by omega⟩
       ·exact ⟨_,_,rfl,.inr (bF.err d2)⟩
      ·refine ⟨_,_,rfl,.inr ?_⟩;rw [fE (bF.err c2)];exact bF.err c2
    ·rw [if_neg h5];exact ⟨_,_,rfl,.inr (bF.err (On.jX p3))⟩
   ·rw [if_neg h2]
    rcases lM a2.1 (s:=[59]) au with ⟨r4,c1,c2⟩ | ⟨x,c1,c2⟩
    ·exact ⟨_,_,rfl,.inl ⟨r4,0,a3.tr c2,⟨zw cq.globals (zx b2),cq.arrays,cq.fns,cq.trees,cq.len⟩,(b3.trans (Sf.aL au c1)).le ao,by simp only;omega⟩⟩
    ·exact ⟨_,_,rfl,.inr (bF.err c2)⟩
  ·rw [if_neg (fun h=>bF.err a2 h.1),fE (bF.err a2)];exact ⟨_,_,rfl,.inr (bF.err a2)⟩
 ·rw [if_neg h1]
  by_cases h2:is p 0 mF=true
  ·rw [if_pos h2]
   rcases tt p1 with ⟨r1,a1,a2⟩ | ⟨x,a1,a2⟩
   ·obtain ⟨b1,b2⟩:=Sf.name a1 (gz.ok ho);have b3:=gz.trans b1;have a3:bF p (bm p.next) (.ok r1):=(On.next hp).tr a2
    rcases lM a2.1 (s:=[40]) au with ⟨r2,c1,c2⟩ | ⟨x,c1,c2⟩
    ·have b4:=b3.trans (Sf.aL au c1);have a4:=a3.tr c2;have hl:=On.len c2.1;have jB:(want (bm p.next) [40]).l=p.l:=a4.2.1;obtain ⟨l,q,k1,k2⟩:=IG f [] _ r2 c2.1 (b4.ok ho) (by rw [jB] at hl;unfold fW at hf;omega) rfl;rw [k1];simp only
     rcases k2 with ⟨r3,n,k3,k4,k5⟩ | k3
     ·have a5:=a4.tr k3;have qv:q.l=p.l:=a5.2.1;rw [if_pos k3.1.code];obtain ⟨t,q',k6,k7⟩:=Vh (f:=f) k3.1 (by rw [qv];exact hs) (by unfold fW at hf |-;rw [qv];exact hf);rw [k6];simp only;have b5:=b4.trans k5
      cases hb:block q.e 1 r3 with
      | error x=>rw [hb] at k7;exact ⟨_,_,rfl,.inr (bF.err k7)⟩
      | ok y =>
       obtain ⟨t',r4⟩:=y;rw [hb] at k7;obtain ⟨rfl,k7⟩:=k7;obtain ⟨k8,k9⟩:=JK (b5.ok ho) hb;refine ⟨_,_,rfl,.inl ⟨r4,n+aP t+2,a5.tr k7,⟨cq.globals,cq.arrays,?_,?_,?_⟩,(b5.trans k9).le ao,?_⟩⟩
       ·intro x hx
        rcases List.mem_append.1 hx with hx | hx
        ·exact cq.fns x hx
        ·rw [mem_singleton] at hx;subst hx;exact ⟨b2,k4⟩
       ·intro x hx
        rcases List.mem_append.1 hx with hx | hx
        ·exact cq.trees x hx
        ·rw [mem_singleton] at hx;subst hx;exact k8
       ·simp only [length_append,length_cons,length_nil];have:=cq.len;omega
       ·simp only [mQ,az];omega
     ·rw [if_neg k3];exact ⟨_,_,rfl,.inr k3⟩
    ·rw [yF (bF.err c2) (by unfold fW at hf;omega)];simp only;rw [if_neg (bF.err c2)];exact ⟨_,_,rfl,.inr (bF.err c2)⟩
   ·rw [fE (bF.err a2),yF (bF.err a2) (by unfold fW at hf;omega)];simp only;rw [if_neg (bF.err a2)];exact ⟨_,_,rfl,.inr (bF.err a2)⟩
  ·rw [if_neg h2];exact ⟨_,_,rfl,.inr (bF.err (On.jX hp))⟩
theorem IH {f:Nat}:∀ (G:Nat) (p:RS) (st:PS) (ts:List Tok),On p ts->ru ts->sI p.l->fW p<=f->BL st->ts.length < G ->
  ∃ q dT,nj G f p st=some (q,dT)/\(q.code=0->BL dT/\az dT.trees<=ts.length+az st.trees)
 | 0,p,st,ts,_,_,_,_,_,hG=>by omega
 | G+1,p,st,ts,hp,ho,hs,hf,cq,hG=>by
  cases ts with
  | nil =>
   rw [nj,if_neg (fun hc=>Vu hp hc.2)];exact ⟨p,st,rfl,fun _=>⟨cq,by simp⟩⟩
  | cons u r0 =>
   obtain ⟨q,dT,h1,h2⟩:=Vj hp ho hs hf cq;rw [qJ hp h1];rw [length_cons] at hG
   rcases h2 with ⟨r,n,h3,h4,h5,h6⟩ | h3
   ·have hl:=h5.len;rw [length_cons] at hl;have qv:q.l=p.l:=h3.2.1;obtain ⟨q',st2,k1,k2⟩:=IH G q dT r h3.1 (h5.ok ho) (by rw [qv];exact hs) (by unfold fW at hf |-;rw [qv];exact hf) h4 ao;exact ⟨q',st2,k1,fun hc=>by obtain ⟨k3,k4⟩:=k2 hc;exact ⟨k3,by rw [length_cons];omega⟩⟩
   ·exact ⟨q,dT,II h3 ao,fun hc=>absurd hc h3⟩
def oR (st:PS):List Fn:=st.fns.mapIdx fun i x=>⟨x.1,x.2,((az (st.trees.take i):Nat):Int)⟩
def same (p:Src) (st:PS):Bool:=fg (fun x y=>x==y) p.globals st.globals&&(fg za p.arrays st.arrays&&(fg rj p.fns (oR st)&&fg kF p.nodes (ef 0 st.trees)))
structure Reads (x:ah) (ts:List Tok) (c z:Int) (q:RS) (st:PS):Prop where
 lex:mY x (x.length+1) 0 []=some (ts,c,z)
 len:ts.length<=x.length
 read:nj (ts.length+1) (40 * ts.length+100) ⟨ts,0,(x.length:Int),0,0⟩ .empty=some (q,st)
 ok:q.code=0->BL st/\az st.trees<=ts.length
theorem reads (x:ah):∃ ts c z q st,Reads x ts c z q st:=by
 obtain ⟨ts,c,z,h1,h2,h3,h4⟩:=rJ x (x.length+1) 0 [] (Nat.zero_le _) ao (fun t h=>by simp at h) .nil (fun t h=>by simp at h) (Nat.le_refl _);have Df:On ⟨ts,0,(x.length:Int),0,0⟩ ts:=⟨rfl,Nat.zero_le _,rfl,fun t ht=>(h2 t ht).kinds⟩;obtain ⟨q,st,h5,h6⟩:=IH (f:=40 * ts.length+100) (ts.length+1) _ .empty ts Df h2 h3 (Nat.le_refl _) ⟨rfl,rfl,fun x h=>(by cases h),fun x h=>(by cases h),rfl⟩ ao;exact ⟨ts,c,z,q,st,h1,h4,h5,fun h=>by obtain ⟨a,b⟩:=h6 h;exact ⟨a,by simpa [PS.empty,az] using b⟩⟩
structure Forms (l:List T) (ls:List (List S)):Prop where
 len:ls.length=l.length
 at_:∀ (i:Nat) t b,l[i]?=some t->ls[i]?=some b->S.cP b=true/\er t=bG b
theorem EW:∀ (l:List T),(∀ t∈l,BF t)->∃ ls,Forms l ls
 | [],_=>⟨[],rfl,fun i t b h=>by simp at h⟩
 | t::l,h=>by
  obtain ⟨b,h1,h2⟩:=h t mem_cons_self
  obtain ⟨ls,h3⟩:=EW l fun u hu=>h u (mem_cons_of_mem _ hu)
  refine ⟨b::ls,by simp [h3.len],fun i t' b' k1 k2=>?_⟩
  cases i with
  | zero=>cases k1;cases k2;exact ⟨h1,h2⟩
  | succ i=>exact h3.at_ i t' b' (by simpa using k1) (by simpa using k2)
theorem fx.mem {Q:Fn->T->Prop}:∀ {fns:List Fn} {a:Nat} {l:List T},fx Q fns a l->(∀ f∈fns,∃ t∈l,Q f t)/\(∀ t∈l,∃ f∈fns,Q f t)
 | [],_,[],_=>⟨fun f h=>(by cases h),fun f h=>(by cases h)⟩
 | f::r,a,t::l,h=>by
  rw [fx] at h;obtain ⟨k1,k2⟩:=fx.mem h.2.2;refine ⟨fun g hg=>?_,fun u hu=>?_⟩
  ·rcases List.mem_cons.1 hg with rfl | hg
   ·exact ⟨t,mem_cons_self,h.2.1⟩
   ·obtain ⟨u,a,b⟩:=k1 g hg;exact ⟨u,mem_cons_of_mem _ a,b⟩
  ·rcases List.mem_cons.1 hu with rfl | hu
   ·exact ⟨f,mem_cons_self,h.2.1⟩
   ·obtain ⟨g,a,b⟩:=k2 u hu;exact ⟨g,mem_cons_of_mem _ a,b⟩
 | [],_,t::l,h=>by cases h
 | f::r,_,[],h=>by cases h
theorem fK.JX {p:Src} {l:List T} (h:fK p l):∃ ls,Forms l ls:=by
 refine EW l fun t ht=>?_
 obtain ⟨f,_,h1⟩:=(fx.mem h.fns).2 t ht;exact toB h1.all h1.kind
theorem fK.at_ {p:Src} {l:List T} (h:fK p l):lY l:=by
 have:∀ l:List T,(∀ t∈l,c8 t=true)->lY l:=by
  intro l
  induction l with
  | nil=>intro _;trivial
  | cons t l ih=>intro h;rw [lY];exact ⟨LL t (h t mem_cons_self),ih fun u hu=>h u (mem_cons_of_mem _ hu)⟩
 refine this l fun t ht=>?_
 obtain ⟨f,_,h1⟩:=(fx.mem h.fns).2 t ht;exact h1.all
theorem fK.ED {p:Src} {l:List T} (h:fK p l):jj p.nodes p.fns 0 []=some (l,p.nodes.length):=by
 rw [HX p.fns 0 [] l h.st h.fns h.at_,h.len];simp
theorem fK.k {p:Src} {l:List T} (h:fK p l):l.all fQ=true:=by
 rw [all_eq_true];intro t ht;obtain ⟨f,_,h1⟩:=(fx.mem h.fns).2 t ht;exact QW t h1.all
theorem Mx {l:List T} {ls:List (List S)} (h:Forms l ls):aM l=ls.map bG:=by
 rw [sx];apply List.ext_getElem?;intro i;rw [getElem?_map,getElem?_map];have hl:=h.len
 cases h1:l[i]? with
 | none =>
  rw [List.getElem?_eq_none_iff] at h1;rw [List.getElem?_eq_none_iff.2 ao];rfl
 | some t =>
  have hi:=(List.getElem?_eq_some_iff.1 h1).1
  have h2:ls[i]?=some (ls[i]'ao):=by simp [hl,hi]
  rw [h2];exact congrArg some (h.at_ i t _ h1 h2).2
theorem zip_fst {α β:Type}:∀ (a:List α) (b:List β),a.length=b.length->(a.zip b).map Prod.fst=a
 | [],[],_=>rfl
 | x::a,y::b,h=>by rw [zip_cons_cons,List.map_cons,zip_fst a b (by simpa using h)]
 | [],y::b,h=>by simp at h
 | x::a,[],h=>by simp at h
theorem CL {α β:Type}:∀ (a:List α) (b:List β),a.length=b.length->(a.zip b).map Prod.snd=b
 | [],[],_=>rfl
 | x::a,y::b,h=>by rw [zip_cons_cons,List.map_cons,CL a b (by simpa using h)]
 | [],y::b,h=>by simp at h
 | x::a,[],h=>by simp at h
theorem yc (l:List T) (i:Nat):az (l.take i)=az ((aM l).take i):=by
 rw [sx,<-List.map_take,<-sx,vE]
theorem VO {p:Src} {l:List T} {l':List T} {ls:List (List S)} (h:fK p l) (he:aM l'=aM l):same p ⟨l',p.globals,p.arrays,p.fns.map fun x=>(x.name,x.params)⟩=true:=by
 unfold same;simp only [Bool.and_eq_true];refine ⟨qD (fun x=>by simp) _,qD (fun x=>by simp [za]) _,?_,?_⟩
 ·have:oR ⟨l',p.globals,p.arrays,p.fns.map fun x=>(x.name,x.params)⟩=p.fns:=by
   unfold oR;apply List.ext_getElem?;intro i;simp only [List.getElem?_mapIdx,getElem?_map]
   cases hf:p.fns[i]? with
   | none=>rfl
   | some f =>
    have hlen:=fx.len h.fns;have hi:=(List.getElem?_eq_some_iff.1 hf).1
    have ht:l[i]?=some (l[i]'ao):=by simp [<-hlen,hi]
    have hb:=(fx.at_ h.fns i f _ hf ht).1;rw [Nat.zero_add,yc,<-he,<-yc] at hb;simp only [Option.map_some];rw [<-hb]
  rw [this];refine qD (fun x=>?_) _;simp [rj,qD]
 ·rw [dy.all h.st h.len];exact B5 _ _ 0 he.symm
theorem Vn {p:Src} {l:List T} {ls:List (List S)} (h:fK p l) (hf:Forms l ls):mW cQ fu p l=dj f2 (dj a1 (dj g1 [] p.globals) p.arrays) (p.fns.zip ls):=by
 unfold mW
 refine LY _ _ _ _ hf.len fun i t b h1 h2=>?_
 obtain ⟨h3,h4⟩:=hf.at_ i t b h1 h2;rw [<-LS,h4];exact uR b h3 0
theorem Lc {p:Src} {l:List T} {ls:List (List S)} (h:fK p l) (hf:Forms l ls) {ts:List Tok} {c z:Int} {q:RS} {st:PS} (hr:Reads (mW cQ fu p l) ts c z q st) :
  c=0/\((ls.all fun b=>ew b 1)=true->q.code=0/\az st.trees<=800/\same p st=true)/\((ls.all fun b=>ew b 1)=false->q.code≠0):=by
 have hx:=Vn h hf;have hlen:=fx.len h.fns;have pQ:=hf.len
 have px:∀ x∈p.fns.zip ls,Wc x:=by
  intro x hx;obtain ⟨f,b⟩:=x;obtain ⟨i,hi⟩:=List.getElem?_of_mem hx;rw [List.getElem?_zip_eq_some] at hi;have r6:=(List.getElem?_eq_some_iff.1 hi.2).1
  have ht:l[i]?=some (l[i]'ao):=by simp [<-pQ,r6]
  have h1:=(fx.at_ h.fns i f _ hi.1 ht).2;exact ⟨h1.name,h1.params,(hf.at_ i _ b ht hi.2).1⟩
 obtain ⟨us,h1,h2⟩:=NW p.globals p.arrays (p.fns.zip ls) h.globals h.arrays px;rw [<-hx] at h1;have h3:=SW h1 rfl ((mW cQ fu p l).length+1) [] ao;rw [nil_append,hr.lex] at h3;simp only [Option.some.injEq,Prod.mk.injEq] at h3;obtain ⟨rfl,rfl,rfl⟩:=h3
 have Zv:sI ts:=by
  obtain ⟨iI,c',z',k1,k2,k3,k4⟩:=rJ (mW cQ fu p l) ((mW cQ fu p l).length+1) 0 [] (Nat.zero_le _) ao (fun t h=>by simp at h) .nil (fun t h=>by simp at h) (Nat.le_refl _);rw [hr.lex] at k1;cases k1;exact k3
 obtain ⟨h4,h5⟩:=h2 Zv ((mW cQ fu p l).length:Int) (ts.length+1) (40 * ts.length+100) (Nat.le_refl _) (Nat.le_refl _)
 have aQ:((p.fns.zip ls).all fun x=>ew x.2 1)=ls.all fun b=>ew b 1:=by
  have:ls=(p.fns.zip ls).map Prod.snd:=(CL _ _ ao).symm
  conv=>rhs;rw [this]
  rw [List.all_map];rfl
 rw [aQ] at h4 h5;refine ⟨rfl,fun uC=>?_,fun uC=>?_⟩
 ·obtain ⟨q',l',k1,k2,k3⟩:=h4 uC;rw [hr.read] at k1;simp only [Option.some.injEq,Prod.mk.injEq] at k1;obtain ⟨rfl,rfl⟩:=k1
  have e1:((p.fns.zip ls).map fun x=>bG x.2)=ls.map bG:=by
   have:ls=(p.fns.zip ls).map Prod.snd:=(CL _ _ ao).symm
   conv=>rhs;rw [this]
   rw [map_map];rfl
  have e2:((p.fns.zip ls).map fun x=>(x.1.name,x.1.params))=p.fns.map fun x=>(x.name,x.params):=by
   have:p.fns=(p.fns.zip ls).map Prod.fst:=(zip_fst _ _ ao).symm
   conv=>rhs;rw [this]
   rw [map_map];rfl
  have he:aM l'=aM l:=by rw [k3,e1,Mx hf]
  refine ⟨k2,?_,?_⟩
  ·simp only;rw [<-vE,he,vE,h.len];exact h.few
  ·rw [e2];exact VO (ls:=ls) h he
 ·obtain ⟨q',dT,k1,k2⟩:=h5 uC;rw [hr.read] at k1;simp only [Option.some.injEq,Prod.mk.injEq] at k1;obtain ⟨rfl,rfl⟩:=k1;exact k2
theorem Ib {α:Type} {p:α->α->Bool} {a b:List α} (h:fg p a b=true) {x:α} (hx:x∈a):∃ y∈b,p x y=true:=by
 obtain ⟨i,hi⟩:=List.getElem?_of_mem hx;have hl:=yt h;have ak:=(List.getElem?_eq_some_iff.1 hi).1
 have hb:b[i]?=some (b[i]'ao):=by simp [<-hl,ak]
 exact ⟨_,mem_of_getElem? hb,EM hi hb h⟩
theorem KR {p:Src} {l:List T} (hn:p.nodes.length<=800) (hb:jj p.nodes p.fns 0 []=some (l,p.nodes.length)) {st:PS} (eG:BL st) (hs:same p st=true):fK p l:=by
 obtain ⟨l',h1,h2,h3,h4,h5⟩:=BU _ _ _ _ _ hb;rw [nil_append] at h1;subst h1;unfold same at hs;simp only [Bool.and_eq_true] at hs;obtain ⟨s1,s2,s3,s4⟩:=hs
 have hz:az l=p.nodes.length:=by omega
 have US:=dy.all h2 hz;rw [US] at s4
 have hlen:l.length=st.trees.length:=by
  have a1:=fx.len h3;have a2:=yt s3;unfold oR at a2;rw [List.length_mapIdx] at a2;have:=eG.len;omega
 have he:=Tk hlen s4
 have iL:∀ f∈p.fns,bp f.name=true/\cx f.params=true:=by
  intro f hf;obtain ⟨g,hg,hp⟩:=Ib s3 hf;unfold oR at hg;obtain ⟨i,hi⟩:=List.getElem?_of_mem hg;rw [List.getElem?_mapIdx] at hi
  cases hx:st.fns[i]? with
  | none=>rw [hx] at hi;cases hi
  | some x =>
   rw [hx] at hi;cases hi;simp only [rj,Bool.and_eq_true,beq_iff_eq] at hp;obtain ⟨⟨k1,k2⟩,_⟩:=hp;obtain ⟨k3,k4⟩:=eG.fns x (mem_of_getElem? hx);rw [k1,yr k2];exact ⟨k3,k4⟩
 have X5:∀ t∈l,t.n.kind=14/\c8 t=true:=by
  intro t ht
  have h6:er t∈aM l:=by rw [sx];exact List.mem_map_of_mem ht
  rw [he,sx] at h6;obtain ⟨u,hu,h7⟩:=List.mem_map.1 h6;obtain ⟨b,k1,k2⟩:=eG.trees u hu;rw [h7] at k2
  have wV:xf t:=by
   have:∀ l:List T,lY l->t∈l->xf t:=by
    intro l
    induction l with
    | nil=>intro _ h;cases h
    | cons v l ih =>
     intro h hm;rw [lY] at h
     rcases List.mem_cons.1 hm with rfl | hm
     ·exact h.1
     ·exact ih h.2 hm
   exact this l h5 ht
  refine ⟨?_,LM t (by rw [k2];exact S.uS b k1) wV⟩;have:=congrArg (fun x=>x.n.kind) k2;simp only [xn] at this;exact this
 refine ⟨?_,?_,h2,fx.mono h3 fun f t hf ht _=>⟨(iL f hf).1,(iL f hf).2,(X5 t ht).1,(X5 t ht).2⟩,hz,hn⟩
 ·rw [yr s1];exact eG.globals
 ·rw [all_eq_true];intro a ha;obtain ⟨b,hb,hp⟩:=Ib s2 ha;have h6:=List.all_eq_true.1 eG.arrays b hb;simp only [za,Bool.and_eq_true,beq_iff_eq] at hp;unfold oq at h6 |-;rw [hp.1,hp.2];exact h6
def be {α:Type} (f:α->Nat):List α->Nat
 | []=>0
 | x::l=>f x+be f l
theorem Ax {α:Type} (f:α->Nat) (a b:List α):be f (a++b)=be f a+be f b:=by
 induction a with
 | nil=>simp [be]
 | cons x a ih=>simp only [cons_append,be,ih];omega
theorem Tq {α:Type} {f g:α->Nat} {l:List α} (h:∀ x∈l,f x<=g x):be f l<=be g l:=by
 induction l with
 | nil=>exact Nat.le_refl _
 | cons x l ih =>
  have h1:=h x mem_cons_self
  have h2:=ih fun y hy=>h y (mem_cons_of_mem _ hy)
  simp only [be];omega
theorem nK {α:Type} {f:α->Nat} {l:List α} {x:α} (h:x∈l):f x<=be f l:=by
 induction l with
 | nil=>cases h
 | cons y l ih =>
  rw [be]
  rcases List.mem_cons.1 h with rfl | h
  ·omega
  ·have:=ih h;omega
theorem nJ {α:Type} {f g:α->Nat} {k:Nat} {l:List α} (h:∀ x∈l,f x<=k * g x):be f l<=k * be g l:=by
 induction l with
 | nil=>exact Nat.zero_le _
 | cons x l ih =>
  have h1:=h x mem_cons_self
  have h2:=ih fun y hy=>h y (mem_cons_of_mem _ hy)
  simp only [be,Nat.mul_add];omega
theorem tE {α:Type} (f:α->Nat) (l:List α) (h:∀ x∈l,1<=f x):l.length<=be f l:=by
 induction l with
 | nil=>exact Nat.zero_le _
 | cons x l ih =>
  have h1:=h x mem_cons_self
  have h2:=ih fun y hy=>h y (mem_cons_of_mem _ hy)
  rw [be,length_cons];omega
theorem Gx {α β:Type} (f:α->Nat) (g:β->Nat):∀ (a:List α) (b:List β),be (fun x:α × β=>f x.1+g x.2) (a.zip b)<=be f a+be g b
 | [],b=>by simp [be]
 | x::a,[]=>by simp [be]
 | x::a,y::b=>by
  have:=Gx f g a b;simp only [zip_cons_cons,be] at *;omega
theorem vQ {α:Type} (f:α->ah):∀ (l:List α) (acc:ah),(dj f acc l).length=acc.length+be (fun x=>(f x).length) l
 | [],acc=>by simp [dj,be]
 | x::l,acc=>by rw [dj,vQ f l,length_append,be];omega
def sq (n:Nd):Nat:=n.s.length+60
mutual
theorem Wb:∀ (t:T) (a:Nat),jF t=be sq (lO a t)
 | .mk n l,a=>by rw [jF,lO,be,yV l (a+1),sq]
theorem yV:∀ (l:List T) (a:Nat),fO l=be sq (ef a l)
 | [],a=>rfl
 | t::r,a=>by rw [fO,ef,Ax,Wb t a,yV r (a+aP t)]
end
def wi (l:List T) (i:Nat):Nat:=match l[i]? with | some t=>jF t | none=>0
theorem ZT (l:List T):wi l 0+wi l 1+wi l 2<=fO l:=by
 match l with
 | []=>simp [wi]
 | [a]=>simp only [wi,fO];simp
 | [a,b]=>simp only [wi,fO];simp
 | a::b::c::r=>simp only [wi,fO];simp;omega
theorem Ir {l:List T} {f:T->ah} (h:∀ t∈l,(f t).length<=jF t) (i:Nat):((l.map f).getD i []).length<=wi l i:=by
 rw [List.getD_eq_getElem?_getD,getElem?_map];unfold wi
 cases hi:l[i]? with
 | none=>simp
 | some t=>exact h t (mem_of_getElem? hi)
theorem Jl {l:List T} {t:T} (h:t∈l):aP t<=az l:=by
 induction l with
 | nil=>cases h
 | cons a l ih =>
  rw [az]
  rcases List.mem_cons.1 h with rfl | h
  ·omega
  ·have:=ih h;omega
theorem Jj {f:T->ah}:∀ {l:List T},(∀ t∈l,(f t).length+4<=jF t)->ki (l.map f)<=fO l
 | [],_=>Nat.zero_le _
 | t::l,h=>by
  have h1:=h t mem_cons_self
  have h2:=Jj (l:=l) fun y hy=>h y (mem_cons_of_mem _ hy)
  rw [List.map_cons,ki,fO];omega
theorem VV:∀ (N:Nat) (t:T),aP t<=N->o0 t->∀ d,(jV cQ fu d t).length+4<=jF t/\(nb cQ fu d t).length<=jF t:=by
 intro N
 induction N with
 | zero=>intro t h;have:=ko t;omega
 | succ N ih =>
  intro t hN hn d;have cU:=eh t;rw [qR] at hn
  have hk:∀ a∈t.kids,∀ d,(jV cQ fu d a).length+4<=jF a/\(nb cQ fu d a).length<=jF a:=fun a ha d=>ih a (by have:=Jl ha;omega) (jE hn.2 ha) d
  have hx:=Ir (l:=t.kids) (f:=cQ) (fun a ha=>by have:=vG (aP a) a (Nat.le_refl _) (jE hn.2 ha);omega);have hb:=Ir (l:=t.kids) (f:=nb cQ fu d) (fun a ha=>(hk a ha d).2);have h3:=ZT t.kids;have hw:=oQ t;have fc:=vG (aP t) t (Nat.le_refl _) ((qR t).2 hn);have x0:=hx 0;have x1:=hx 1;have b1:=hb 1;have b2:=hb 2;constructor
  ·rw [N9,HV];unfold xc;split
   ·simp only [length_append,length_cons,length_nil];omega
   split
   ·simp only [length_append,length_cons,length_nil];omega
   split
   ·simp only [length_append,length_cons,length_nil];omega
   split
   ·split
    ·simp only [length_append,length_cons,length_nil];omega
    ·simp only [length_append,length_cons,length_nil];omega
   split
   ·simp only [length_append,length_cons,length_nil];omega
   split
   ·simp only [length_append,length_cons,length_nil];omega
   split
   ·simp only [length_append,length_cons,length_nil];omega
   ·omega
  ·rw [LR,Jh]
   have:=Jj (f:=jV cQ fu (d+1)) (l:=t.kids) fun a ha=>(hk a ha (d+1)).1
   have e:∀ l:List ah,(fu l d).length=3+ki l:=fun l=>by
    unfold fu;rw [length_append,sO];simp only [length_cons,length_nil];omega
   rw [e];omega
def wS (l:List ah):Nat:=be (fun s=>s.length+1) l
def ej (p:Src):Nat:=wS p.globals+be (fun a:Ar=>a.name.length+1) p.arrays+be (fun f:Fn=>f.name.length+wS f.params+1) p.fns+be (fun n:Nd=>n.s.length+n.kids.length+1) p.nodes
structure xe (p:Src):Prop where
 arrays:∀ a∈p.arrays,-9223372036854775808<=a.size/\a.size<=9223372036854775807
 nodes:∀ n∈p.nodes,-9223372036854775808<=n.n/\n.n<=9223372036854775807
mutual
theorem eu.num {nodes:List Nd} (h:∀ n∈nodes,-9223372036854775808<=n.n/\n.n<=9223372036854775807):∀ (t:T) (a:Nat),eu nodes a t->o0 t
 | .mk n l,a,hs=>by
  rw [eu] at hs;rw [o0];exact ⟨h n (mem_of_getElem? hs.1),dy.num h l _ hs.2.2⟩
theorem dy.num {nodes:List Nd} (h:∀ n∈nodes,-9223372036854775808<=n.n/\n.n<=9223372036854775807):∀ (l:List T) (a:Nat),dy nodes a l->p7 l
 | [],a,_=>trivial
 | t::r,a,hs=>by
  rw [dy] at hs;rw [p7];exact ⟨eu.num h t a hs.1,dy.num h r _ hs.2⟩
end
theorem Qy (l:List ah):(l.map fun y=>y.length+2).sum=be (fun s=>s.length+2) l:=by
 induction l with
 | nil=>rfl
 | cons s l ih=>rw [List.map_cons,sum_cons,ih,be]
theorem GZ (l:List T):fO l=be jF l:=by
 induction l with
 | nil=>rfl
 | cons t l ih=>rw [fO,be,ih]
theorem SO {p:Src} {l:List T} (hn:xe p) (hs:dy p.nodes 0 l) (hz:az l=p.nodes.length):(mW cQ fu p l).length<=100 * ej p:=by
 have im:=dy.num hn.nodes l 0 hs
 have e1:be (fun s=>(g1 s).length) p.globals<=100 * wS p.globals:=nJ fun s _=>by simp only [g1,length_append,length_cons,length_nil];omega
 have e2:be (fun a=>(a1 a).length) p.arrays<=100 * be (fun a:Ar=>a.name.length+1) p.arrays:=nJ fun a ha=>by
  have:=xR (hn.arrays a ha);simp only [a1,length_append,length_cons,length_nil];omega
 have e3:be (fun x=>(f1 cQ fu x).length) (p.fns.zip l)<=be (fun x:Fn × T=>(fun f:Fn=>100 * (f.name.length+wS f.params+1)) x.1+jF x.2) (p.fns.zip l):=Tq fun x hx=>by
  have h1:=(VV (aP x.2) x.2 (Nat.le_refl _) (jE im (List.of_mem_zip hx).2) 0).2;have h2:=Ae x.1.params;rw [Qy] at h2
  have h3:be (fun s=>s.length+2) x.1.params<=2 * wS x.1.params:=nJ fun s _=>by omega
  simp only [f1,length_append,length_cons,length_nil];omega
 have e4:=Gx (fun f:Fn=>100 * (f.name.length+wS f.params+1)) jF p.fns l
 have e5:be (fun f:Fn=>100 * (f.name.length+wS f.params+1)) p.fns<=100 * be (fun f:Fn=>f.name.length+wS f.params+1) p.fns:=nJ fun f _=>Nat.le_refl _
 have e6:be sq p.nodes<=100 * be (fun n:Nd=>n.s.length+n.kids.length+1) p.nodes:=nJ fun n _=>by unfold sq;omega
 have e7:be jF l=be sq p.nodes:=by rw [<-GZ,yV l 0,<-dy.all hs hz]
 unfold mW ej;rw [vQ,vQ,vQ];simp only [length_nil];have e8:=Nat.le_trans e3 e4;generalize be (fun x=>(f1 cQ fu x).length) (p.fns.zip l)=v3 at *;generalize be (fun s=>(g1 s).length) p.globals=v1 at *;generalize be (fun a=>(a1 a).length) p.arrays=v2 at *;omega
theorem GK {p:Src} {l:List T} (hs:dy p.nodes 0 l) (hz:az l=p.nodes.length):∀ t∈l,jF t<=100 * ej p/\aP t<=ej p:=fun t ht=>by
 have e6:be sq p.nodes<=100 * be (fun n:Nd=>n.s.length+n.kids.length+1) p.nodes:=nJ fun n _=>by unfold sq;omega
 have e7:be jF l=be sq p.nodes:=by rw [<-GZ,yV l 0,<-dy.all hs hz]
 have e8:=nK (f:=jF) ht;have e9:=Jl ht
 have XE:=tE (fun n:Nd=>n.s.length+n.kids.length+1) p.nodes fun n _=>by omega
 unfold ej;omega
theorem GM (l:List ah):l.length<=wS l:=tE _ l fun s _=>by omega
theorem Ow {l:List ah} {s:ah} (h:s∈l):s.length+1<=wS l:=nK (f:=fun s:ah=>s.length+1) h
structure Small (p:Src) (n:Nat):Prop where
 globals:p.globals.length<=n/\∀ s∈p.globals,s.length<=n
 arrays:p.arrays.length<=n/\∀ a∈p.arrays,a.name.length<=n
 fns:p.fns.length<=n/\∀ f∈p.fns,f.name.length<=n/\f.params.length<=n/\∀ s∈f.params,s.length<=n
 nodes:p.nodes.length<=n/\∀ x∈p.nodes,x.s.length<=n/\x.kids.length<=n
theorem gS (p:Src):Small p (ej p):=by
 have a1:=GM p.globals
 have a2:=tE (fun a:Ar=>a.name.length+1) p.arrays fun a _=>by omega
 have a3:=tE (fun f:Fn=>f.name.length+wS f.params+1) p.fns fun a _=>by omega
 have a4:=tE (fun n:Nd=>n.s.length+n.kids.length+1) p.nodes fun a _=>by omega
 unfold ej;refine ⟨⟨by omega,fun s hs=>?_⟩,⟨by omega,fun a ha=>?_⟩,⟨by omega,fun f hf=>?_⟩,⟨by omega,fun n hn=>?_⟩⟩
 ·have:=Ow hs;omega
 ·have:=nK (f:=fun a:Ar=>a.name.length+1) ha;omega
 ·have:=nK (f:=fun f:Fn=>f.name.length+wS f.params+1) hf;refine ⟨by omega,by have:=GM f.params;omega,fun s hs=>by have:=Ow hs;omega⟩
 ·have:=nK (f:=fun n:Nd=>n.s.length+n.kids.length+1) hn;exact ⟨by omega,by omega⟩
structure zJ (st:PS) (n:Nat):Prop where
 globals:st.globals.length<=n
 arrays:st.arrays.length<=n
 fns:st.fns.length<=n
 params:∀ x∈st.fns,x.2.length<=n
theorem Nk:∀ (f:Nat) (acc:List ah) (p:RS) (l:List ah) (q:RS),oK f acc p=some (l,q)->l.length<=acc.length+f
 | 0,_,_,_,_,h=>by cases h
 | f+1,acc,p,l,q,h=>by
  rw [oK] at h;split at h
  ·have:=Nk f _ _ l q h;rw [length_append,length_cons,length_nil] at this;omega
  ·cases h;omega
theorem zJ.up {st:PS} {n:Nat} (h:zJ st n):zJ st (n+1):=by
 obtain ⟨a,b,c,d⟩:=h;exact ⟨by omega,by omega,by omega,fun x hx=>by have:=d x hx;omega⟩
theorem WR {f n:Nat} {p q:RS} {st dT:PS} (hf:f<=n) (h:iW f p st=some (q,dT)) (hs:zJ st n):zJ dT (n+1):=by
 have key:=hs.up;obtain ⟨a,b,c,d⟩:=hs;unfold iW at h;split at h
 ·split at h
  ·split at h
   ·cases h;exact ⟨by simp;omega,by simp;omega,by simp;omega,fun x hx=>by have:=d x hx;omega⟩
   ·cases h;exact key
  ·cases h;exact ⟨by simp;omega,by simp;omega,by simp;omega,fun x hx=>by have:=d x hx;omega⟩
 ·split at h
  ·cases hm:oK f [] (want (bm p.next) [40]) with
   | none=>rw [hm] at h;cases h
   | some r =>
    obtain ⟨l,q1⟩:=r;rw [hm] at h;simp only at h;have hl:=Nk _ _ _ _ _ hm;split at h
    ·split at h
     ·cases h
     ·cases h;refine ⟨by simp;omega,by simp;omega,by simp;omega,fun x hx=>?_⟩
      rcases List.mem_append.1 hx with hx | hx
      ·have:=d x hx;omega
      ·rw [mem_singleton] at hx;subst hx;simp at hl |-;omega
    ·cases h;exact key
  ·cases h;exact key
theorem Nn {f:Nat}:∀ (G n:Nat) (p q:RS) (st dT:PS),f<=n->nj G f p st=some (q,dT)->zJ st n->zJ dT (n+G)
 | 0,n,p,q,st,dT,_,h,_=>by cases h
 | G+1,n,p,q,st,dT,hf,h,hs=>by
  rw [nj] at h;split at h
  ·cases hw:iW f p st with
   | none=>rw [hw] at h;cases h
   | some r =>
    obtain ⟨q1,s1⟩:=r;rw [hw] at h;simp only at h;have:=Nn G (n+1) q1 q s1 dT ao h (WR hf hw hs);rw [show n+(G+1)=n+1+G by omega];exact this
  ·cases h;obtain ⟨a,b,c,d⟩:=hs;exact ⟨by omega,by omega,by omega,fun x hx=>by have:=d x hx;omega⟩
mutual
theorem Pg:∀ (t:T) (a:Nat),∀ n∈lO a t,n.kids.length<=aP t
 | .mk m l,a,n,h=>by
  rw [lO] at h;rw [aP]
  rcases List.mem_cons.1 h with rfl | h
  ·simp only [dX];have:=bL l;omega
  ·have:=zP l (a+1) n h;omega
theorem zP:∀ (l:List T) (a:Nat),∀ n∈ef a l,n.kids.length<=az l
 | [],a,n,h=>by rw [ef] at h;cases h
 | t::r,a,n,h=>by
  rw [ef] at h;rw [az]
  rcases List.mem_append.1 h with h | h
  ·have:=Pg t a n h;omega
  ·have:=zP r _ n h;omega
end
end Go.Im
namespace Go.Sp
open Go.Xp
structure Ek (p:Src) (ls:List (List S)):Prop where
 len:ls.length=p.fns.length
 at_:∀ (i:Nat) f l,p.fns[i]?=some f->ls[i]?=some l->0<=f.body/\S.cP l=true/\wt (bG l)<=1000000000/\∃ t,sub p.nodes (fN p.nodes) f.body.toNat=some t/\er t=bG l
theorem S6 (a:E) (ho:a.ok=true):(a.txt).length+4<=wt a.tree:=(E.len a ho).1
theorem Se {l:List S} (ho:S.cP l=true) (hw:wt (bG l)<=1000000000) :
  ∃ ts t q f,Go.Sp.iy (eW E.txt l)=some ts/\(eW E.txt l).length<=1000000000/\ts.length<=1000000000/\1+f<=1099511627776/\mS f (.block 1) ⟨ts,0,(eW E.txt l).length,0,0⟩=some (t,q)/\q.l=ts/\((q.code=0/\q.i=ts.length/\ew l 1=true)\/(q.code≠0/\ew l 1=false)):=by
 have hlen:=sr E.txt S6 ho;generalize hx:eW E.txt l=x at *;obtain ⟨ts,h1,h2⟩:=(IY ho).all;rw [hx] at h2;have h3:=h2.len;have Df:On ⟨ts,0,x.length,0,0⟩ ts:=⟨rfl,Nat.zero_le _,rfl,h2.kinds⟩;have bP:rs (x.length:Int) (mq ts) (.block 1) ts≠.error aX:=vM;obtain ⟨t,q,h4,h5⟩:=(js (mq ts)).block 1 ts _ Df bP;have Rv:=EC (e:=(x.length:Int)) (d:=1) (rest:=[]) ho h1;rw [append_nil] at Rv
 change iQ _ q t (block (x.length:Int) 1 ts) at h5
 refine ⟨ts,t,q,KF (mq ts),h2.all,by omega,by omega,by unfold KF mq;omega,h4 _ (Nat.le_refl _),?_⟩
 cases hf:ew l 1 with
 | true =>
  obtain ⟨t',_,h6⟩:=Rv.1 hf;rw [h6] at h5;obtain ⟨_,h7,h8,_⟩:=h5;have h8:q.l=ts:=h8;refine ⟨h8,.inl ⟨h7.code,?_,rfl⟩⟩;have hr:=congrArg List.length h7.rest;have hle:=h7.le;rw [length_drop] at hr;rw [h8] at hr hle;simp only [length_nil] at hr;omega
 | false =>
  obtain ⟨pos,h6⟩:=Rv.2 hf;rw [h6] at h5;exact ⟨h5.2.2.2.1,.inr ⟨bF.err h5,rfl⟩⟩
end Go.Sp
namespace Go.Im
open Go.Xp Go.Sp
def KQ (p:Src) (x:ah):Bool:=match mY x (x.length+1) 0 [] with
 | none=>false
 | some (ts,c,z)=>if c≠0 then false else match nj (ts.length+1) (40 * ts.length+100) ⟨ts,0,(x.length:Int),0,0⟩ .empty with
  | none=>false
  | some (q,st)=>if q.code≠0 then false else if az st.trees > 800 then false else same p st
def fI (p:Src):Bool:=if p.nodes.length > 800 then false else match jj p.nodes p.fns 0 [] with
 | none=>false
 | some (l,e)=>if e≠p.nodes.length then false else if l.all fQ=false then false else KQ p (mW cQ fu p l)
theorem Aj {p:Src} {x:ah} {ts:List Tok} {c z:Int} {q:RS} {st:PS} (h:Reads x ts c z q st):KQ p x=if c≠0 then false else if q.code≠0 then false else if az st.trees > 800 then false else same p st:=by
 unfold KQ;rw [h.lex];simp only;rw [h.read]
theorem Yx {p:Src} {l:List T} {ls:List (List S)} (h:fK p l) (hf:Forms l ls):fI p=ls.all fun b=>ew b 1:=by
 unfold fI;have h8:=h.few;rw [if_neg ao,h.ED];simp only;rw [if_neg (by simp),if_neg (by rw [h.k];decide)];obtain ⟨ts,c,z,q,st,hr⟩:=reads (mW cQ fu p l);obtain ⟨h1,h2,h3⟩:=Lc h hf hr;rw [Aj hr,if_neg (by simpa using h1)]
 cases hb:ls.all fun b=>ew b 1 with
 | false=>rw [if_pos (h3 hb)]
 | true =>
  obtain ⟨k1,k2,k3⟩:=h2 hb;rw [if_neg (by simpa using k1),if_neg ao,k3]
theorem tR {p:Src} (h:fI p=true):∃ l,fK p l:=by
 unfold fI at h
 by_cases h8:p.nodes.length > 800
 ·rw [if_pos h8] at h;cases h
 rw [if_neg h8] at h
 cases hb:jj p.nodes p.fns 0 [] with
 | none=>rw [hb] at h;cases h
 | some y =>
  obtain ⟨l,e⟩:=y;rw [hb] at h;simp only at h
  by_cases he:e=p.nodes.length
  ·subst he;rw [if_neg (by simp)] at h
   by_cases hk:l.all fQ=false
   ·rw [if_pos hk] at h;cases h
   rw [if_neg hk] at h;obtain ⟨ts,c,z,q,st,hr⟩:=reads (mW cQ fu p l);rw [Aj hr] at h;split at h
   ·cases h
   split at h
   ·cases h
   ·rename_i hc;split at h
    ·cases h
    ·exact ⟨l,KR ao hb (hr.ok (by simpa using hc)).1 h⟩
  ·rw [if_pos he] at h;cases h
theorem Yw {p:Src} (h:nZ p=some false):fI p=false:=by
 cases hf:fI p with
 | false=>rfl
 | true =>
  obtain ⟨l,h1⟩:=tR hf;rw [h1.nZ] at h;cases h
theorem dy.ix {nodes:List Nd}:∀ (l:List T) (a i:Nat) (t:T),dy nodes a l->l[i]?=some t->eu nodes (a+az (l.take i)) t
 | [],a,i,t,_,h=>by simp at h
 | u::r,a,0,t,h,hi=>by
  cases hi;rw [dy] at h;exact h.1
 | u::r,a,i+1,t,h,hi=>by
  rw [dy] at h;have:=dy.ix r (a+aP u) i t h.2 (by simpa using hi);rw [take_succ_cons,az,<-Nat.add_assoc];exact this
mutual
theorem OS:∀ t:T,wt t<=jF t
 | .mk n l=>by have:=G0 l;rw [wt,jF];omega
theorem G0:∀ l:List T,eH l<=fO l
 | []=>Nat.le_refl _
 | t::r=>by have:=OS t;have:=G0 r;rw [eH,fO];omega
end
theorem LU {p:Src} {l:List T} {ls:List (List S)} (h:fK p l) (hf:Forms l ls) (hw:ej p<=1048576):Ek p ls:=by
 have hl:=fx.len h.fns;refine ⟨by rw [hf.len];omega,fun i f b h1 h2=>?_⟩;have hi:=(List.getElem?_eq_some_iff.1 h2).1;have hlen:=hf.len
 have ht:l[i]?=some (l[i]'ao):=by simp [<-hlen,hi]
 obtain ⟨h3,h4⟩:=hf.at_ i _ b ht h2;obtain ⟨h5,h6⟩:=fx.at_ h.fns i f _ h1 ht;have h7:=dy.ix l 0 i _ h.st ht;rw [Nat.zero_add] at h5 h7;have hm:=mem_of_getElem? ht;have h8:=GK h.st h.len _ hm;have h9:=OS (l[i]'ao);have la:=eu.le _ _ h7;refine ⟨by omega,h3,by rw [<-h4,R6];omega,_,?_,h4⟩;rw [h5,Int.toNat_natCast];exact (vD _).1 _ _ h7 (by unfold fN;omega)
theorem nM {α:Type} (f:α->Nat) (l:List α) (k:Nat):be f (l.take k)<=be f l:=by
 have:be f l=be f (l.take k)+be f (l.drop k):=by rw [<-Ax,take_append_drop]
 omega
structure aaf (p:Src) (i:Nat) (u:T) (a:E):Prop where
 ok:a.ok=true
 er:er u=a.tree
 sub:sub p.nodes (fN p.nodes) i=some u
 tr:∃ e,oo p.nodes (p.nodes.length - i+1) i=some (u,e)
 k:fQ u=true
 num:o0 u
 wt:jF u<=100 * ej p
 txt:cQ u=a.txt
def sd (w left:Nat):Int:=if w<=left then ((left - w:Nat):Int) else -1
theorem gm {w left:Nat} (h:w<=left):sd w left=((left - w:Nat):Int):=by unfold sd;rw [if_pos h]
theorem dJ {w left:Nat} (h:left < w):sd w left = -1:=by unfold sd;rw [if_neg ao]
theorem nL {α:Type} (w:α->Nat) (l:List α):be (fun x=>w x+1) l=l.length+be w l:=by
 induction l with
 | nil=>rfl
 | cons x l ih=>rw [be,ih,be,length_cons];omega
theorem kH {α:Type} {w:α->Nat} {l:List α} {k:Nat} {x:α} (h:l[k]?=some x):be w (l.take (k+1))=be w (l.take k)+w x:=by
 have:l.take (k+1)=l.take k++[x]:=by rw [List.take_add_one,h];rfl
 rw [this,Ax,be,be];rfl
theorem kU {α β:Type} {f:α->β} {l:List α} {k:Nat} {x:α} {Z:β} (h:l[k]?=some x):((l.take k).map f++List.replicate (l.length - k) Z).set k (f x)=(l.take (k+1)).map f++List.replicate (l.length - (k+1)) Z:=by
 have hk:=(List.getElem?_eq_some_iff.1 h).1
 have ht:l.take (k+1)=l.take k++[x]:=by rw [List.take_add_one,h];rfl
 have hl:((l.take k).map f).length=k:=by rw [length_map,length_take];omega
 rw [show l.length - k=(l.length - (k+1))+1 by omega,List.replicate_succ,List.set_append_right _ _ ao,hl,Nat.sub_self,List.set_cons_zero,ht,List.map_append];simp
theorem kT {α β:Type} {f:α->β} {l:List α} {k:Nat} {Z:β} (h:k<=l.length):((l.take k).map f++List.replicate (l.length - k) Z).length=l.length:=by
 rw [length_append,length_map,length_take,List.length_replicate];omega
theorem kR {α β:Type} {f:α->β} {l:List α} {Z:β}:(l.take l.length).map f++List.replicate (l.length - l.length) Z=l.map f:=by
 rw [List.take_length,Nat.sub_self];simp
theorem CQ {p:Src} {l:List T} (h:fK p l):∀ a∈p.arrays,0<=a.size/\a.size<=2147483647:=fun a ha=>by
 have:=List.all_eq_true.1 h.arrays a ha;unfold oq at this;simp only [Bool.and_eq_true,Bool.not_eq_true',decide_eq_false_iff_not] at this;omega
end Go.Im
