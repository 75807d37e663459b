/- Part 2 of proofs that are told in their last texts. -/
import Derived.Test.YthgncfaljaocoaaGreatDoorY1
open List (all_cons all_eq_true any_eq_true append_assoc append_nil cons_append drop_left eq_nil_of_length_eq_zero find?_eq_none flatMap_cons foldl_cons getElem?_map getElem?_take length_append length_cons length_drop length_map length_nil length_take map_map mem_cons_of_mem mem_cons_self mem_of_getElem? mem_singleton nil_append sum_cons tail_cons take_append_drop take_succ_cons take_zero zip_cons_cons)
set_option linter.unusedVariables false
set_option linter.unusedSimpArgs false
set_option maxRecDepth 100000
namespace Go.Xp
open Go.Sp (be ep)
section
variable {e:Int} {d:Nat} {ts rest:List Tok} {Q:T->Prop} {b:Bool}
theorem S.head {s:S} (ho:s.ok=true) (ht:ts.map kf=s.tk):∃ t r,ts=t::r/\∀ rest,sign (t::rest) 0≠dY/\sign (t::rest) 0≠[125]:=by
 cases s with
 | set s a =>
  rw [S.tk] at ht;obtain ⟨t,r,rfl,h1,_⟩:=map_cons ht;obtain ⟨h1,_⟩:=pD h1;exact ⟨t,r,rfl,fun rest=>⟨iu h1 (by decide),iu h1 (by decide)⟩⟩
 | put s a b =>
  rw [S.tk] at ht;obtain ⟨t,r,rfl,h1,_⟩:=map_cons ht;obtain ⟨h1,_⟩:=pD h1;exact ⟨t,r,rfl,fun rest=>⟨iu h1 (by decide),iu h1 (by decide)⟩⟩
 | if1 c b =>
  rw [S.tk] at ht;obtain ⟨t,r,rfl,h1,_⟩:=map_cons ht;exact ⟨t,r,rfl,fun rest=>by rw [r9 h1];decide⟩
 | if2 c b b2 =>
  rw [S.tk] at ht;obtain ⟨t,r,rfl,h1,_⟩:=map_cons ht;exact ⟨t,r,rfl,fun rest=>by rw [r9 h1];decide⟩
 | while_ c b =>
  rw [S.tk] at ht;obtain ⟨t,r,rfl,h1,_⟩:=map_cons ht;exact ⟨t,r,rfl,fun rest=>by rw [r9 h1];decide⟩
 | ret a =>
  rw [S.tk] at ht;obtain ⟨t,r,rfl,h1,_⟩:=map_cons ht;exact ⟨t,r,rfl,fun rest=>by rw [r9 h1];decide⟩
 | var s a =>
  rw [S.tk] at ht;obtain ⟨t,r,rfl,h1,_⟩:=map_cons ht;exact ⟨t,r,rfl,fun rest=>by rw [r9 h1];decide⟩
 | do_ a =>
  simp only [S.ok] at ho;obtain ⟨k0,r0,hh,hf⟩:=E.head a ho;rw [S.tk,hh] at ht;obtain ⟨t,r,rfl,h1,_⟩:=map_cons ht;refine ⟨t,r,rfl,fun rest=>?_⟩
  rcases zJ (r:=rest) (by rw [h1];exact hf) with h | h | h | h | h <;> (rw [h];decide)
def qH (l:List S):Prop:=∀ (e:Int) (d:Nat) (acc:List T) (ts rest:List Tok) (u:Tok),S.cI l=true->ts.map kf=S.mi l->u.kind=3->u.s=[125] ->
 (S.fits l d=true->∃ ys,aE ys=S.trees l/\Eb e d acc (ts++u::rest) (.ok (acc++ys,rest)))/\(S.fits l d=false->∃ pos,Eb e d acc (ts++u::rest) (.error (9,pos)))
theorem KC:qH []:=by
 intro e d acc ts rest u _ ht hu fx
 have:ts=[]:=by simpa [S.mi] using ht
 subst this;refine ⟨fun _=>⟨[],rfl,1,fun f hf=>?_⟩,fun h=>by simp [S.fits] at h⟩;obtain ⟨f,rfl⟩:∃ g,f=g+1:=⟨f - 1,by omega⟩;rw [rs.body,if_pos (by exact tf hu fx),append_nil];rfl
theorem IY {a:S} {l:List S} (Ca:qI a) (Cl:qH l):qH (a::l):=by
 intro e d acc ts rest u ho ht hu fx;simp only [S.cI,Bool.and_eq_true] at ho;rw [S.mi] at ht;obtain ⟨A,B,rfl,h3,h4⟩:=da ht;obtain ⟨t,r,rfl,hh⟩:=S.head ho.1 h3
 have bN:sign (B++u::rest) 0≠dY:=by
  cases l with
  | nil =>
   have:B=[]:=by simpa [S.mi] using h4
   subst this;rw [nil_append,tf hu fx];decide
  | cons a' l' =>
   simp only [S.cI,Bool.and_eq_true] at ho;rw [S.mi] at h4;obtain ⟨A',B',rfl,h5,h6⟩:=da h4;obtain ⟨t',r',rfl,Yy⟩:=S.head ho.2.1 h5;exact (Yy _).1
 have hx:=Ca e d (t::r) (B++u::rest) ho.1 h3 bN
 have he:t::r++B++u::rest=t::r++(B++u::rest):=by simp
 have hs:sign (t::r++(B++u::rest)) 0≠[125]:=(hh _).2;rw [he,S.fits]
 cases hfa:a.fit d with
 | false =>
  refine ⟨fun hb=>(by simp at hb),fun _=>?_⟩;obtain ⟨pos,f0,h0⟩:=hx.2 hfa;refine ⟨pos,f0+1,fun f hf=>?_⟩;obtain ⟨f,rfl⟩:∃ g,f=g+1:=⟨f - 1,by omega⟩;rw [rs.body,if_neg hs,h0 f (by omega)]
 | true =>
  obtain ⟨ta,k1,f0,h0⟩:=hx.1 hfa;have hl:=Cl e d (acc++[ta]) B rest u ho.2 h4 hu fx;refine ⟨fun hb=>?_,fun hb=>?_⟩
  ·obtain ⟨ys,k3,f1,k4⟩:=hl.1 (by simpa using hb);refine ⟨ta::ys,by rw [aE,k1,k3,S.trees],f0+f1+1,fun f hf=>?_⟩;obtain ⟨f,rfl⟩:∃ g,f=g+1:=⟨f - 1,by omega⟩;rw [rs.body,if_neg hs,h0 f (by omega)];simp only;rw [k4 f (by omega),append_assoc];rfl
  ·obtain ⟨pos,f1,k3⟩:=hl.2 (by simpa using hb);refine ⟨pos,f0+f1+1,fun f hf=>?_⟩;obtain ⟨f,rfl⟩:∃ g,f=g+1:=⟨f - 1,by omega⟩;rw [rs.body,if_neg hs,h0 f (by omega)];exact k3 f (by omega)
theorem qH.blk {l:List S} (C:qH l) {A:List Tok} {u w:Tok} (ho:S.cI l=true) (ht:A.map kf=S.mi l) (hu:u.kind=3) (fx:u.s=[123]) (hw:w.kind=3) (CX:w.s=[125]) :
  Sx e (.block d) (u::(A++w::rest)) rest (fun t=>er t=.mk ⟨14,0,0,[],[]⟩ (S.trees l)) (decide (d<=60)&&S.fits l (d+1)):=by
 have hb:=C e (d+1) [] A rest w ho ht hw CX
 by_cases hd:d<=60
 ·have:(decide (d<=60)&&S.fits l (d+1))=S.fits l (d+1):=by simp [hd]
  rw [this];refine ⟨fun h=>?_,fun h=>?_⟩
  ·obtain ⟨ys,k1,f0,h0⟩:=hb.1 h;refine ⟨one 14 u.at_ [] ys,by show er _=_;rw [dD,k1],f0+1,fun f hf=>?_⟩;obtain ⟨f,rfl⟩:∃ g,f=g+1:=⟨f - 1,by omega⟩;rw [rs,if_neg (by omega),qu hu fx];simp only;rw [h0 f (by omega)];rfl
  ·obtain ⟨pos,f0,h0⟩:=hb.2 h;refine ⟨pos,f0+1,fun f hf=>?_⟩;obtain ⟨f,rfl⟩:∃ g,f=g+1:=⟨f - 1,by omega⟩;rw [rs,if_neg (by omega),qu hu fx];simp only;rw [h0 f (by omega)]
 ·have:(decide (d<=60)&&S.fits l (d+1))=false:=by simp [hd]
  rw [this];exact ⟨fun hb=>(by cases hb),fun _=>⟨_,rI fun f=>by rw [rs,if_pos (by omega)]⟩⟩
theorem xi {j:qf} {x:Rd T} {iD:List Tok} {j':qf} {x':Rd T} (h:Es e j ts x) (hs:∀ f,rs e f j ts=x->rs e (f+1) j' iD=x'):Es e j' iD x':=by
 obtain ⟨f0,h0⟩:=h;refine ⟨f0+1,fun f hf=>?_⟩;obtain ⟨f,rfl⟩:∃ g,f=g+1:=⟨f - 1,by omega⟩;exact hs f (h0 f (by omega))
theorem Hm {j j2:qf} {x x2:Rd T} {iD vG:List Tok} {j':qf} {x':Rd T} (h:Es e j ts x) (h2:Es e j2 vG x2) (hs:∀ f,rs e f j ts=x->rs e f j2 vG=x2->rs e (f+1) j' iD=x'):Es e j' iD x':=by
 obtain ⟨f0,h0⟩:=h;obtain ⟨f1,h1⟩:=h2;refine ⟨f0+f1+1,fun f hf=>?_⟩;obtain ⟨f,rfl⟩:∃ g,f=g+1:=⟨f - 1,by omega⟩;exact hs f (h0 f (by omega)) (h1 f (by omega))
theorem Nz (c:E) {l:List S} (C:qH l):qI (.if1 c l):=by
 intro e d ts rest ho ht dQ;simp only [S.ok,Bool.and_eq_true] at ho;rw [S.tk] at ht;obtain ⟨v,r,rfl,h1,h2⟩:=map_cons ht;obtain ⟨u,r,rfl,h3,h4⟩:=map_cons h2;obtain ⟨A,r,rfl,h5,h6⟩:=da h4;obtain ⟨w,r,rfl,h7,h8⟩:=map_cons h6;obtain ⟨x,r,rfl,h9,kU⟩:=map_cons h8;obtain ⟨B,r,rfl,oe,nQ⟩:=da kU;obtain ⟨y,rfl,eE⟩:=gM nQ;obtain ⟨h1,cr⟩:=dO h1;obtain ⟨h3,jQ⟩:=dO h3;obtain ⟨h7,kl⟩:=dO h7;obtain ⟨h9,CN⟩:=dO h9;obtain ⟨eE,zM⟩:=dO eE
 have he:v::u::(A++w::x::(B++[y]))++rest=v::u::(A++w::(x::(B++y::rest))):=by simp
 have hi:=vd (e:=e) (d:=d+1) (rest:=x::(B++y::rest)) ho.1 h5 h3 jQ h7 kl (by simp);have hb:=C.blk (e:=e) (d:=d+1) (rest:=rest) ho.2 oe h9 CN eE zM;have hv:=tf (rest:=u::(A++w::(x::(B++y::rest)))) h1 cr;rw [he,S.fit]
 refine oZ fun hd=>?_
 cases hfa:pg c (d+1) with
 | false =>
  refine ⟨fun hb=>(by simp at hb),fun _=>?_⟩;obtain ⟨pos,k1⟩:=hi.2 hfa;refine ⟨pos,rI fun f=>?_⟩;rw [rs,if_neg (by omega)];simp only;rw [if_neg (by rw [hv];decide),if_pos (.inl hv),tail_cons,k1]
 | true =>
  obtain ⟨tc,k1,k2⟩:=hi.1 hfa;rw [Bool.true_and];refine ⟨fun h=>?_,fun h=>?_⟩
  ·obtain ⟨tb,k3,k4⟩:=hb.1 h;refine ⟨one 9 v.at_ [] [tc,tb],by show er _=_;rw [dD,aE,aE,k1,k3,S.tree];rfl,xi k4 fun f k4=>?_⟩;rw [rs,if_neg (by omega)];simp only;rw [if_neg (by rw [hv];decide),if_pos (.inl hv),tail_cons,k2];simp only;rw [k4];simp only;rw [if_pos hv,if_neg dQ];rfl
  ·obtain ⟨pos,k3⟩:=hb.2 h;refine ⟨pos,xi k3 fun f k3=>?_⟩;rw [rs,if_neg (by omega)];simp only;rw [if_neg (by rw [hv];decide),if_pos (.inl hv),tail_cons,k2];simp only;rw [k3]
theorem I0 (c:E) {l:List S} (C:qH l):qI (.while_ c l):=by
 intro e d ts rest ho ht dQ;simp only [S.ok,Bool.and_eq_true] at ho;rw [S.tk] at ht;obtain ⟨v,r,rfl,h1,h2⟩:=map_cons ht;obtain ⟨u,r,rfl,h3,h4⟩:=map_cons h2;obtain ⟨A,r,rfl,h5,h6⟩:=da h4;obtain ⟨w,r,rfl,h7,h8⟩:=map_cons h6;obtain ⟨x,r,rfl,h9,kU⟩:=map_cons h8;obtain ⟨B,r,rfl,oe,nQ⟩:=da kU;obtain ⟨y,rfl,eE⟩:=gM nQ;obtain ⟨h1,cr⟩:=dO h1;obtain ⟨h3,jQ⟩:=dO h3;obtain ⟨h7,kl⟩:=dO h7;obtain ⟨h9,CN⟩:=dO h9;obtain ⟨eE,zM⟩:=dO eE
 have he:v::u::(A++w::x::(B++[y]))++rest=v::u::(A++w::(x::(B++y::rest))):=by simp
 have hi:=vd (e:=e) (d:=d+1) (rest:=x::(B++y::rest)) ho.1 h5 h3 jQ h7 kl (by simp);have hb:=C.blk (e:=e) (d:=d+1) (rest:=rest) ho.2 oe h9 CN eE zM;have hv:=tf (rest:=u::(A++w::(x::(B++y::rest)))) h1 cr;rw [he,S.fit]
 refine oZ fun hd=>?_
 cases hfa:pg c (d+1) with
 | false =>
  refine ⟨fun hb=>(by simp at hb),fun _=>?_⟩;obtain ⟨pos,k1⟩:=hi.2 hfa;refine ⟨pos,rI fun f=>?_⟩;rw [rs,if_neg (by omega)];simp only;rw [if_neg (by rw [hv];decide),if_pos (.inr hv),tail_cons,k1]
 | true =>
  obtain ⟨tc,k1,k2⟩:=hi.1 hfa;rw [Bool.true_and];refine ⟨fun h=>?_,fun h=>?_⟩
  ·obtain ⟨tb,k3,k4⟩:=hb.1 h;refine ⟨one 10 v.at_ [] [tc,tb],by show er _=_;rw [dD,aE,aE,k1,k3,S.tree];rfl,xi k4 fun f k4=>?_⟩;rw [rs,if_neg (by omega)];simp only;rw [if_neg (by rw [hv];decide),if_pos (.inr hv),tail_cons,k2];simp only;rw [k4];simp only;rw [if_neg (by rw [hv];decide)];rfl
  ·obtain ⟨pos,k3⟩:=hb.2 h;refine ⟨pos,xi k3 fun f k3=>?_⟩;rw [rs,if_neg (by omega)];simp only;rw [if_neg (by rw [hv];decide),if_pos (.inr hv),tail_cons,k2];simp only;rw [k3]
theorem NA (c:E) {l l2:List S} (C:qH l) (C2:qH l2):qI (.if2 c l l2):=by
 intro e d ts rest ho ht dQ;simp only [S.ok,Bool.and_eq_true] at ho;rw [S.tk] at ht;obtain ⟨v,r,rfl,h1,h2⟩:=map_cons ht;obtain ⟨u,r,rfl,h3,h4⟩:=map_cons h2;obtain ⟨A,r,rfl,h5,h6⟩:=da h4;obtain ⟨w,r,rfl,h7,h8⟩:=map_cons h6;obtain ⟨x,r,rfl,h9,kU⟩:=map_cons h8;obtain ⟨B,r,rfl,oe,nQ⟩:=da kU;obtain ⟨y,r,rfl,eE,AG⟩:=map_cons nQ;obtain ⟨z,r,rfl,St,Ya⟩:=map_cons AG;obtain ⟨x2,r,rfl,Su,Yb⟩:=map_cons Ya;obtain ⟨B2,r,rfl,Yc,Yd⟩:=da Yb;obtain ⟨y2,rfl,Hv⟩:=gM Yd;obtain ⟨h1,cr⟩:=dO h1;obtain ⟨h3,jQ⟩:=dO h3;obtain ⟨h7,kl⟩:=dO h7;obtain ⟨h9,CN⟩:=dO h9;obtain ⟨eE,zM⟩:=dO eE;obtain ⟨St,WE⟩:=dO St;obtain ⟨Su,WG⟩:=dO Su;obtain ⟨Hv,WH⟩:=dO Hv
 have he:v::u::(A++w::x::(B++y::z::x2::(B2++[y2])))++rest=v::u::(A++w::(x::(B++y::(z::(x2::(B2++y2::rest)))))):=by simp
 have hi:=vd (e:=e) (d:=d+1) (rest:=x::(B++y::(z::(x2::(B2++y2::rest))))) ho.1 h5 h3 jQ h7 kl (by simp);have hb:=C.blk (e:=e) (d:=d+1) (rest:=z::(x2::(B2++y2::rest))) ho.2.1 oe h9 CN eE zM;have eG:=C2.blk (e:=e) (d:=d+1) (rest:=rest) ho.2.2 Yc Su WG Hv WH;have hv:=tf (rest:=u::(A++w::(x::(B++y::(z::(x2::(B2++y2::rest))))))) h1 cr;have hz:=tf (rest:=x2::(B2++y2::rest)) St WE;rw [he,S.fit]
 refine oZ fun hd=>?_
 cases hfa:pg c (d+1) with
 | false =>
  refine ⟨fun hb=>(by simp at hb),fun _=>?_⟩;obtain ⟨pos,k1⟩:=hi.2 hfa;refine ⟨pos,rI fun f=>?_⟩;rw [rs,if_neg (by omega)];simp only;rw [if_neg (by rw [hv];decide),if_pos (.inl hv),tail_cons,k1]
 | true =>
  obtain ⟨tc,k1,k2⟩:=hi.1 hfa;rw [Bool.true_and]
  cases hfb:(decide (d+1<=60)&&S.fits l (d+2)) with
  | false =>
   refine ⟨fun hb=>(by simp at hb),fun _=>?_⟩;obtain ⟨pos,k3⟩:=hb.2 hfb;refine ⟨pos,xi k3 fun f k3=>?_⟩;rw [rs,if_neg (by omega)];simp only;rw [if_neg (by rw [hv];decide),if_pos (.inl hv),tail_cons,k2];simp only;rw [k3]
  | true =>
   obtain ⟨tb,k3,k4⟩:=hb.1 hfb;rw [Bool.true_and];refine ⟨fun h=>?_,fun h=>?_⟩
   ·obtain ⟨Zv,k5,k6⟩:=eG.1 h;refine ⟨one 9 v.at_ [] [tc,tb,Zv],by show er _=_;rw [dD,aE,aE,aE,k1,k3,k5,S.tree];rfl,Hm k4 k6 fun f k4 k6=>?_⟩;rw [rs,if_neg (by omega)];simp only;rw [if_neg (by rw [hv];decide),if_pos (.inl hv),tail_cons,k2];simp only;rw [k4];simp only;rw [if_pos hv,if_pos hz,tail_cons,k6];rfl
   ·obtain ⟨pos,k5⟩:=eG.2 h;refine ⟨pos,Hm k4 k5 fun f k4 k5=>?_⟩;rw [rs,if_neg (by omega)];simp only;rw [if_neg (by rw [hv];decide),if_pos (.inl hv),tail_cons,k2];simp only;rw [k4];simp only;rw [if_pos hv,if_pos hz,tail_cons,k5]
end
mutual
theorem coreS:∀ (s:S),qI s
 | .set s a=>NF s a
 | .put s a b=>NC s a b
 | .if1 c b=>Nz c (yf b)
 | .if2 c b b2=>NA c (yf b) (yf b2)
 | .while_ c b=>I0 c (yf b)
 | .ret a=>ND a
 | .do_ a=>QC a
 | .var s a=>NG s a
theorem yf:∀ (l:List S),qH l
 | []=>KC
 | a::l=>IY (coreS a) (yf l)
end
def IV (l:List S):List K:=kS [123]::(S.mi l++[kS [125]])
def bB (l:List S):T:=.mk ⟨14,0,0,[],[]⟩ (S.trees l)
def ei (l:List S) (d:Nat):Bool:=decide (d<=60)&&S.fits l (d+1)
theorem Vw (e:Int):∀ f,(∀ j ts,rs e f j ts=.error aP\/rs e (f+1) j ts=rs e f j ts)/\(∀ d acc ts,rs.body e f d acc ts=.error aP\/rs.body e (f+1) d acc ts=rs.body e f d acc ts):=by
 intro f
 induction f with
 | zero=>exact ⟨fun j ts=>.inl (by simp [rs]),fun d acc ts=>.inl (by simp [rs.body])⟩
 | succ f ih =>
  obtain ⟨i1,i2⟩:=ih;refine ⟨fun j ts=>?_,fun d acc ts=>?_⟩
  ·cases j with
   | block d =>
    rw [rs,rs];split
    ·exact .inr rfl
    ·cases aC e [123] ts with
     | error x=>exact .inr rfl
     | ok r =>
      simp only
      rcases i2 (d+1) [] r with h | h
      ·left;rw [h]
      ·rw [h];exact .inr rfl
   | stmt d =>
    rw [rs,rs];split
    ·exact .inr rfl
    ·simp only;split
     ·exact .inr rfl
     ·split
      ·cases inner e (d+1) [40] [41] ts.tail with
       | error x=>exact .inr rfl
       | ok y =>
        obtain ⟨c,r⟩:=y;simp only
        rcases i1 (.block (d+1)) r with h | h
        ·left;rw [h]
        ·rw [h]
         cases rs e f (.block (d+1)) r with
         | error x=>exact .inr rfl
         | ok y =>
          obtain ⟨b,r⟩:=y;simp only;split
          ·split
           ·rcases i1 (.block (d+1)) r.tail with h | h
            ·left;rw [h]
            ·rw [h];exact .inr rfl
           ·exact .inr rfl
          ·exact .inr rfl
      ·exact .inr rfl
  ·rw [rs.body,rs.body];split
   ·exact .inr rfl
   ·rcases i1 (.stmt d) ts with h | h
    ·left;rw [h]
    ·rw [h]
     cases rs e f (.stmt d) ts with
     | error x=>exact .inr rfl
     | ok y=>exact i2 _ _ _
theorem Rr {e:Int} {f f':Nat} {j:qf} {ts:List Tok} (h:rs e f j ts≠.error aP) (hf:f<=f'):rs e f' j ts=rs e f j ts:=by
 obtain ⟨k,rfl⟩:=Nat.exists_eq_add_of_le hf;clear hf
 induction k with
 | zero=>rfl
 | succ k ih =>
  rcases (Vw e (f+k)).1 j ts with h1 | h1
  ·rw [ih] at h1;exact absurd h1 h
  ·rw [<-Nat.add_assoc,h1,ih]
theorem DV {l:List S} {e:Int} {d:Nat} {ts rest:List Tok} (ho:S.cI l=true) (ht:ts.map kf=IV l) :
  (ei l d=true->∃ t,er t=bB l/\block e d (ts++rest)=.ok (t,rest))/\(ei l d=false->∃ pos,block e d (ts++rest)=.error (9,pos)):=by
 obtain ⟨u,r,rfl,h1,h2⟩:=map_cons ht;obtain ⟨A,r,rfl,h3,h4⟩:=da h2;obtain ⟨w,rfl,h5⟩:=gM h4;obtain ⟨h1,cr⟩:=dO h1;obtain ⟨h5,PF⟩:=dO h5;have hb:=(yf l).blk (e:=e) (d:=d) (rest:=rest) ho h3 h1 cr h5 PF
 have he:u::(A++[w])++rest=u::(A++w::rest):=by simp
 rw [he]
 have key:∀ {x:Rd T},Es e (.block d) (u::(A++w::rest)) x->block e d (u::(A++w::rest))=x:=by
  rintro x ⟨f0,h0⟩;have bN:rs e (l9 (u::(A++w::rest))) (.block d) (u::(A++w::rest))≠.error aP:=vL;have:=Rr bN (Nat.le_add_left _ f0);rw [h0 _ (by omega)] at this;exact this.symm
 exact ⟨fun h=>by obtain ⟨t,k1,k2⟩:=hb.1 h;exact ⟨t,k1,key k2⟩,fun h=>by obtain ⟨pos,k1⟩:=hb.2 h;exact ⟨pos,key k1⟩⟩
end Go.Xp
namespace Go.Xp
open Go.Sp (be ep cZ bK bG own me fZ ba)
def yJ (n:Int):Int:=if n % 4294967296 > 2147483647 then n % 4294967296 - 4294967296 else n % 4294967296
def cn (n:Nat):ae:=if h:n < 10 then [UInt8.ofNat (48+n)] else cn (n / 10)++[UInt8.ofNat (48+n % 10)]
termination_by n
decreasing_by omega
theorem oE (n:Nat):(cn n).length<=n+1:=by
 induction n using Nat.strongRecOn with
 | _ n ih =>
 unfold cn
 by_cases h:n < 10
 ·rw [dif_pos h];simp
 ·rw [dif_neg h,length_append];have:=ih (n / 10) (by omega);simp;omega
def bx:List ae->ae
 | []=>[]
 | x::r=>x++r.flatMap fun y=>44::32::y
theorem A5 {l:List ae} (h:l≠[]) (x:ae):bx (l++[x])=(bx l++[44,32])++x:=by
 cases l with
 | nil=>exact absurd rfl h
 | cons a l=>simp [bx,List.flatMap_append]
theorem wb (l:List ae) (k:Nat):(bx (l.take k)).length<=(bx l).length:=by
 cases l with
 | nil=>simp
 | cons a l =>
  cases k with
  | zero=>simp [bx]
  | succ k =>
   simp only [take_succ_cons,bx,length_append]
   have:∀ (l:List ae) (k:Nat),((l.take k).flatMap fun y=>(44:UInt8)::32::y).length<=(l.flatMap fun y=>(44:UInt8)::32::y).length:=by
    intro l
    induction l with
    | nil=>intro k;simp
    | cons b l ih=>intro k;cases k with
     | zero=>simp
     | succ k=>simp only [take_succ_cons,flatMap_cons,length_append];have:=ih k;omega
   have:=this l k;omega
def pX (lv k:Nat) (x:ae):ae:=if lv < k then (40::x)++[41] else x
mutual
def E.txt:E->ae
 | .num n=>cn n.toNat
 | .name s=>s
 | .at_ s a=>((s++[91])++a.txt)++[93]
 | .call s l=>((s++[40])++bx (E.cE l))++[41]
 | .un s a=>(s++[32])++pX a.lv 9 a.txt
 | .bin s a b=>(((pX a.lv (dJ s) a.txt++[32])++s)++[32])++pX b.lv (dJ s+1) b.txt
def E.cE:List E->List ae
 | []=>[]
 | a::l=>a.txt::E.cE l
end
mutual
def E.full:E->ae
 | .num n=>cn n.toNat
 | .name s=>s
 | .at_ s a=>((s++[91])++a.full)++[93]
 | .call s l=>((s++[40])++bx (E.rQ l))++[41]
 | .un s a=>((40::s)++a.full)++[41]
 | .bin s a b=>(((((40::a.full)++[32])++s)++[32])++b.full)++[41]
def E.rQ:List E->List ae
 | []=>[]
 | a::l=>a.full::E.rQ l
end
theorem E.O5 (l:List E):E.cE l=l.map E.txt:=by
 induction l with
 | nil=>rfl
 | cons a l ih=>rw [E.cE,ih];rfl
theorem E.Lg (l:List E):E.rQ l=l.map E.full:=by
 induction l with
 | nil=>rfl
 | cons a l ih=>rw [E.rQ,ih];rfl
def E.out (least:Bool) (a:E):ae:=if least then a.txt else a.full
mutual
def S.txt (x:E->ae):S->ae
 | .set s a=>((s++[32,61,32])++x a)++[59]
 | .put s a b=>((((s++[91])++x a)++[93,32,61,32])++x b)++[59]
 | .if1 c b=>(([105,102,32,40]++x c)++[41,32])++(S.cE x [123,32] b++[125])
 | .if2 c b b2=>(((([105,102,32,40]++x c)++[41,32])++(S.cE x [123,32] b++[125]))++[32,101,108,115,101,32])++(S.cE x [123,32] b2++[125])
 | .while_ c b=>(([119,104,105,108,101,32,40]++x c)++[41,32])++(S.cE x [123,32] b++[125])
 | .ret a=>([114,101,116,117,114,110,32]++x a)++[59]
 | .do_ a=>x a++[59]
 | .var s a=>((([118,97,114,32]++s)++[32,61,32])++x a)++[59]
def S.cE (x:E->ae):ae->List S->ae
 | acc,[]=>acc
 | acc,a::l=>S.cE x ((acc++a.txt x)++[32]) l
end
def eQ (x:E->ae) (l:List S):ae:=S.cE x [123,32] l++[125]
theorem G0 (n:Nd) (l:List T):cZ (.mk n l)=(bK l&&bG (.mk n l)):=by rw [cZ]
theorem tG {l:List T} (h:bK l=true) {t:T} (ht:t∈l):cZ t=true:=by
 induction l with
 | nil=>cases ht
 | cons a l ih =>
  rw [bK,Bool.and_eq_true] at h
  rcases List.mem_cons.1 ht with rfl | ht
  ·exact h.1
  ·exact ih h.2 ht
theorem lQ (n:Nd) (l:List T):er (.mk n l)=.mk ⟨n.kind,0,n.n,n.s,[]⟩ (aE l):=by rw [er]
theorem il {l:List T} {m i:Nat} (h:ba m i l=true):∀ (j:Nat) t,l[j]?=some t->(if i+j < m then me t.n.kind else t.n.kind==14)=true:=by
 induction l generalizing i with
 | nil=>intro j t h;simp at h
 | cons a l ih =>
  rw [ba,Bool.and_eq_true] at h;intro j t hj
  cases j with
  | zero=>cases hj;exact h.1
  | succ j=>have:=ih h.2 j t (by simpa using hj);rw [show i+(j+1)=i+1+j by omega];exact this
theorem D7:∀ (l:List T),(∀ t∈l,∃ a:E,a.ok=true/\er t=a.tree)->∃ es:List E,E.cI es=true/\aE l=E.trees es
 | [],_=>⟨[],rfl,rfl⟩
 | t::l,h=>by
  obtain ⟨a,h1,h2⟩:=h t (mem_cons_self);obtain ⟨es,h3,h4⟩:=D7 l (fun t ht=>h t (mem_cons_of_mem _ ht));exact ⟨a::es,by simp [E.cI,h1,h3],by rw [aE,E.trees,h2,h4]⟩
theorem Zx:∀ (sz:Nat) (t:T),sizeOf t<=sz->cZ t=true->me t.n.kind=true->∃ a:E,a.ok=true/\er t=a.tree:=by
 intro sz
 induction sz with
 | zero=>intro t h;cases t;simp at h
 | succ sz ih =>
  intro t b6 ha hk;obtain ⟨n,l⟩:=t;rw [G0,Bool.and_eq_true] at ha;obtain ⟨ha,ho⟩:=ha
  have pB:∀ t∈l,me t.n.kind=true->∃ a:E,a.ok=true/\er t=a.tree:=fun t ht hk=>by
   have:=List.sizeOf_lt_of_mem ht;exact ih t (by simp at b6;omega) (tG ha ht) hk
  obtain ⟨k,at_,v,s,ks⟩:=n
  have hk:(1:Int)<=k/\k<=6:=by
   simp only [me,T.n,Bool.and_eq_true] at hk;exact ⟨of_decide_eq_true hk.1,of_decide_eq_true hk.2⟩
  simp only [bG,own,T.n,T.kids] at ho
  obtain rfl | rfl | rfl | rfl | rfl | rfl:k=1\/k=2\/k=3\/k=4\/k=5\/k=6:=by omega
  ·simp at ho;obtain ⟨h1,h2,h3,h4,h5⟩:=ho;subst h4 h5;exact ⟨.num v,by simp only [E.ok,Bool.and_eq_true];exact ⟨h2,h3⟩,by rw [lQ,E.tree];rfl⟩
  ·simp at ho;obtain ⟨h1,h2,h3,h4⟩:=ho;subst h2 h4;exact ⟨.name s,by simp [E.ok,h3],by rw [lQ,E.tree];rfl⟩
  ·simp at ho;obtain ⟨h1,h2,h3,h4,h5⟩:=ho;subst h2
   match l,h4 with
   | [t],_ =>
    have wT:=il h5 0 t rfl;obtain ⟨a,h6,h7⟩:=pB t (by simp) (by simpa using wT);exact ⟨.at_ s a,by simp [E.ok,h3,h6],by rw [lQ,E.tree,aE,h7];rfl⟩
  ·simp at ho;obtain ⟨h1,h2,h3,h5⟩:=ho;subst h2
   obtain ⟨es,h6,h7⟩:=D7 l fun t ht=>pB t ht (by
    obtain ⟨j,hj⟩:=List.mem_iff_getElem?.1 ht;have ao:=(List.getElem?_eq_some_iff.1 hj).1;have:=il h5 j t hj
    rw [if_pos (by omega)] at this;exact this)
   exact ⟨.call s es,by simp [E.ok,h3,h6],by rw [lQ,E.tree,h7]⟩
  ·simp at ho;obtain ⟨h1,h2,h3,h4,h5⟩:=ho;subst h2
   match l,h4 with
   | [t],_ =>
    have wT:=il h5 0 t rfl;obtain ⟨a,h6,h7⟩:=pB t (by simp) (by simpa using wT);exact ⟨.un s a,by simp only [E.ok,h6,Bool.and_true,Bool.or_eq_true,beq_iff_eq];exact h3,by rw [lQ,E.tree,aE,h7];rfl⟩
  ·simp at ho;obtain ⟨h1,h2,h3,h4,h5⟩:=ho;subst h2
   match l,h4 with
   | [t,u],_ =>
    have wT:=il h5 0 t rfl;have YB:=il h5 1 u rfl;obtain ⟨a,h6,h7⟩:=pB t (by simp) (by simpa using wT);obtain ⟨b,h8,h9⟩:=pB u (by simp) (by simpa using YB);exact ⟨.bin s a b,by simp [E.ok,h3,h6,h8],by rw [lQ,E.tree,aE,aE,h7,h9];rfl⟩
end Go.Xp
namespace Go.Xp
open Go.Sp (be ep cZ bK bG own me fZ ba)
theorem FH:∀ (l:List T),(∀ t∈l,∃ a:S,a.ok=true/\er t=a.tree)->∃ es:List S,S.cI es=true/\aE l=S.trees es
 | [],_=>⟨[],rfl,rfl⟩
 | t::l,h=>by
  obtain ⟨a,h1,h2⟩:=h t (mem_cons_self);obtain ⟨es,h3,h4⟩:=FH l (fun t ht=>h t (mem_cons_of_mem _ ht));exact ⟨a::es,by simp [S.cI,h1,h3],by rw [aE,S.trees,h2,h4]⟩
theorem Zy:∀ (sz:Nat) (t:T),sizeOf t<=sz->cZ t=true->(fZ t.n.kind=true->∃ a:S,a.ok=true/\er t=a.tree)/\(t.n.kind=14->∃ l:List S,S.cI l=true/\er t=bB l):=by
 intro sz
 induction sz with
 | zero=>intro t h;cases t;simp at h
 | succ sz ih =>
  intro t b6 ha;obtain ⟨n,l⟩:=t;rw [G0,Bool.and_eq_true] at ha;obtain ⟨ha,ho⟩:=ha
  have hex:∀ t∈l,me t.n.kind=true->∃ a:E,a.ok=true/\er t=a.tree:=fun t ht hk=>Zx _ t (Nat.le_refl _) (tG ha ht) hk
  have dH:∀ t∈l,t.n.kind=14->∃ l:List S,S.cI l=true/\er t=bB l:=fun t ht hk=>by
   have:=List.sizeOf_lt_of_mem ht;exact (ih t (by simp at b6;omega) (tG ha ht)).2 hk
  have bq:∀ t∈l,fZ t.n.kind=true->∃ a:S,a.ok=true/\er t=a.tree:=fun t ht hk=>by
   have:=List.sizeOf_lt_of_mem ht;exact (ih t (by simp at b6;omega) (tG ha ht)).1 hk
  obtain ⟨k,at_,v,s,ks⟩:=n;simp only [bG,own,T.n,T.kids] at ho;refine ⟨fun hk=>?_,fun hk=>?_⟩
  ·have hk:(7:Int)<=k/\k<=13:=by
    simp only [fZ,T.n,Bool.and_eq_true] at hk;exact ⟨of_decide_eq_true hk.1,of_decide_eq_true hk.2⟩
   obtain rfl | rfl | rfl | rfl | rfl | rfl | rfl:k=7\/k=8\/k=9\/k=10\/k=11\/k=12\/k=13:=by omega
   ·simp at ho;obtain ⟨h1,h2,h3,h4,h5⟩:=ho;subst h2
    match l,h4 with
    | [t],_ =>
     obtain ⟨a,h6,h7⟩:=hex t (by simp) (by simpa using il h5 0 t rfl);exact ⟨.set s a,by simp [S.ok,h3,h6],by rw [lQ,S.tree,aE,h7];rfl⟩
   ·simp at ho;obtain ⟨h1,h2,h3,h4,h5⟩:=ho;subst h2
    match l,h4 with
    | [t,u],_ =>
     obtain ⟨a,h6,h7⟩:=hex t (by simp) (by simpa using il h5 0 t rfl);obtain ⟨b,h8,h9⟩:=hex u (by simp) (by simpa using il h5 1 u rfl);exact ⟨.put s a b,by simp [S.ok,h3,h6,h8],by rw [lQ,S.tree,aE,aE,h7,h9];rfl⟩
   ·simp at ho;obtain ⟨h1,h2,h3,h4,h5⟩:=ho;subst h2 h3
    rcases h4 with h4 | h4
    ·match l,h4 with
     | [t,u],_ =>
      obtain ⟨a,h6,h7⟩:=hex t (by simp) (by simpa using il h5 0 t rfl);obtain ⟨b,h8,h9⟩:=dH u (by simp) (by simpa using il h5 1 u rfl);exact ⟨.if1 a b,by simp [S.ok,h6,h8],by rw [lQ,S.tree,aE,aE,h7,h9];rfl⟩
    ·match l,h4 with
     | [t,u,w],_ =>
      obtain ⟨a,h6,h7⟩:=hex t (by simp) (by simpa using il h5 0 t rfl);obtain ⟨b,h8,h9⟩:=dH u (by simp) (by simpa using il h5 1 u rfl);obtain ⟨c,kU,oe⟩:=dH w (by simp) (by simpa using il h5 2 w rfl);exact ⟨.if2 a b c,by simp [S.ok,h6,h8,kU],by rw [lQ,S.tree,aE,aE,aE,h7,h9,oe];rfl⟩
   ·simp at ho;obtain ⟨h1,h2,h3,h4,h5⟩:=ho;subst h2 h3
    match l,h4 with
    | [t,u],_ =>
     obtain ⟨a,h6,h7⟩:=hex t (by simp) (by simpa using il h5 0 t rfl);obtain ⟨b,h8,h9⟩:=dH u (by simp) (by simpa using il h5 1 u rfl);exact ⟨.while_ a b,by simp [S.ok,h6,h8],by rw [lQ,S.tree,aE,aE,h7,h9];rfl⟩
   ·simp at ho;obtain ⟨h1,h2,h3,h4,h5⟩:=ho;subst h2 h3
    match l,h4 with
    | [t],_ =>
     obtain ⟨a,h6,h7⟩:=hex t (by simp) (by simpa using il h5 0 t rfl);exact ⟨.ret a,by simp [S.ok,h6],by rw [lQ,S.tree,aE,h7];rfl⟩
   ·simp at ho;obtain ⟨h1,h2,h3,h4,h5⟩:=ho;subst h2 h3
    match l,h4 with
    | [t],_ =>
     obtain ⟨a,h6,h7⟩:=hex t (by simp) (by simpa using il h5 0 t rfl);exact ⟨.do_ a,by simp [S.ok,h6],by rw [lQ,S.tree,aE,h7];rfl⟩
   ·simp at ho;obtain ⟨h1,h2,h3,h4,h5⟩:=ho;subst h2
    match l,h4 with
    | [t],_ =>
     obtain ⟨a,h6,h7⟩:=hex t (by simp) (by simpa using il h5 0 t rfl);exact ⟨.var s a,by simp [S.ok,h3,h6],by rw [lQ,S.tree,aE,h7];rfl⟩
  ·simp only [T.n] at hk;subst hk;simp at ho;obtain ⟨h1,h2,h3,h4⟩:=ho;subst h2 h4
   obtain ⟨es,h5,h6⟩:=FH l fun t ht=>bq t ht (h3 t ht)
   exact ⟨es,h5,by rw [lQ,bB,h6]⟩
theorem Zw {t:T} (h:cZ t=true) (hk:t.n.kind=14):∃ l:List S,S.cI l=true/\er t=bB l:=(Zy _ t (Nat.le_refl _) h).2 hk
mutual
def wt:T->Nat
 | .mk n l=>30+n.s.length+eC l
def eC:List T->Nat
 | []=>0
 | t::l=>wt t+eC l
end
mutual
theorem Qn:∀ t:T,wt (er t)=wt t
 | .mk n l=>by rw [er,wt,wt,Iz l]
theorem Iz:∀ l:List T,eC (aE l)=eC l
 | []=>rfl
 | t::l=>by rw [aE,eC,eC,Qn t,Iz l]
end
theorem Hb:∀ (k n:Nat),n < 10 ^ (k+1)->(cn n).length<=k+1:=by
 intro k
 induction k with
 | zero=>intro n h;unfold cn;rw [dif_pos (by omega)];simp
 | succ k ih =>
  intro n h;unfold cn;split
  ·simp
  ·rw [length_append];have:=ih (n / 10) (by rw [Nat.pow_succ] at h;omega);simp;omega
theorem rV (lv k:Nat) (x:ae):(pX lv k x).length<=x.length+2:=by unfold pX;split <;> simp
mutual
theorem E.len:∀ a:E,a.ok=true->a.txt.length+4<=wt a.tree/\a.full.length+4<=wt a.tree
 | .num n,h=>by
  simp only [E.ok,Bool.and_eq_true] at h;have h1:=of_decide_eq_true h.1;have h2:=of_decide_eq_true h.2;have:=Hb 9 n.toNat (by omega);rw [E.txt,E.full,E.tree,wt];simp only [length_nil,eC];omega
 | .name s,h=>by rw [E.txt,E.full,E.tree,wt];simp only [eC];omega
 | .at_ s a,h=>by
  simp only [E.ok,Bool.and_eq_true] at h;have:=E.len a h.2;rw [E.txt,E.full,E.tree,wt];simp only [eC,length_append,length_cons,length_nil];omega
 | .call s l,h=>by
  simp only [E.ok,Bool.and_eq_true] at h;have:=E.lens l h.2;rw [E.txt,E.full,E.tree,wt];simp only [length_append,length_cons,length_nil];omega
 | .un s a,h=>by
  simp only [E.ok,Bool.and_eq_true] at h;have:=E.len a h.2;have:=rV a.lv 9 a.txt;rw [E.txt,E.full,E.tree,wt];simp only [eC,length_append,length_cons,length_nil];omega
 | .bin s a b,h=>by
  simp only [E.ok,Bool.and_eq_true] at h;have:=E.len a h.1.2;have:=E.len b h.2;have:=rV a.lv (dJ s) a.txt;have:=rV b.lv (dJ s+1) b.txt;rw [E.txt,E.full,E.tree,wt];simp only [eC,length_append,length_cons,length_nil];omega
theorem E.lens:∀ l:List E,E.cI l=true->(bx (E.cE l)).length<=eC (E.trees l)/\(bx (E.rQ l)).length<=eC (E.trees l)
 | [],_=>⟨Nat.zero_le _,Nat.zero_le _⟩
 | a::l,h=>by
  simp only [E.cI,Bool.and_eq_true] at h;have h1:=E.len a h.1;have h2:=E.lens l h.2;rw [E.cE,E.rQ,E.trees,eC]
  have key:∀ (x:ae) (l:List ae),(bx (x::l)).length<=x.length+2+(bx l).length:=by
   intro x l
   cases l with
   | nil=>simp [bx]
   | cons y l=>simp [bx];omega
  have:=key a.txt (E.cE l);have:=key a.full (E.rQ l);omega
end
mutual
theorem S.len (x:E->ae) (hx:∀ a:E,a.ok=true->(x a).length+4<=wt a.tree):∀ s:S,s.ok=true->(s.txt x).length+4<=wt s.tree
 | .set s a,h=>by
  simp only [S.ok,Bool.and_eq_true] at h;have:=hx a h.2;rw [S.txt,S.tree,wt];simp only [eC,length_append,length_cons,length_nil];omega
 | .put s a b,h=>by
  simp only [S.ok,Bool.and_eq_true] at h;have:=hx a h.2.1;have:=hx b h.2.2;rw [S.txt,S.tree,wt];simp only [eC,length_append,length_cons,length_nil];omega
 | .if1 c b,h=>by
  simp only [S.ok,Bool.and_eq_true] at h;have:=hx c h.1;have:=S.lens x hx b h.2 [123,32];rw [S.txt,S.tree,wt];simp only [eC,wt,length_append,length_cons,length_nil] at *;omega
 | .if2 c b b2,h=>by
  simp only [S.ok,Bool.and_eq_true] at h;have:=hx c h.1;have:=S.lens x hx b h.2.1 [123,32];have:=S.lens x hx b2 h.2.2 [123,32];rw [S.txt,S.tree,wt];simp only [eC,wt,length_append,length_cons,length_nil] at *;omega
 | .while_ c b,h=>by
  simp only [S.ok,Bool.and_eq_true] at h;have:=hx c h.1;have:=S.lens x hx b h.2 [123,32];rw [S.txt,S.tree,wt];simp only [eC,wt,length_append,length_cons,length_nil] at *;omega
 | .ret a,h=>by
  simp only [S.ok] at h;have:=hx a h;rw [S.txt,S.tree,wt];simp only [eC,length_append,length_cons,length_nil];omega
 | .do_ a,h=>by
  simp only [S.ok] at h;have:=hx a h;rw [S.txt,S.tree,wt];simp only [eC,length_append,length_cons,length_nil];omega
 | .var s a,h=>by
  simp only [S.ok,Bool.and_eq_true] at h;have:=hx a h.2;rw [S.txt,S.tree,wt];simp only [eC,length_append,length_cons,length_nil];omega
theorem S.lens (x:E->ae) (hx:∀ a:E,a.ok=true->(x a).length+4<=wt a.tree):∀ l:List S,S.cI l=true->∀ acc:ae,(S.cE x acc l).length<=acc.length+eC (S.trees l)
 | [],_,acc=>by rw [S.cE];omega
 | a::l,h,acc=>by
  simp only [S.cI,Bool.and_eq_true] at h;have h1:=S.len x hx a h.1;have h2:=S.lens x hx l h.2 ((acc++a.txt x)++[32]);rw [S.cE,S.trees,eC];simp only [length_append,length_cons,length_nil] at h2;omega
end
theorem rU (x:E->ae) (hx:∀ a:E,a.ok=true->(x a).length+4<=wt a.tree) {l:List S} (h:S.cI l=true):(eQ x l).length<=wt (bB l):=by
 have:=S.lens x hx l h [123,32];unfold eQ bB;rw [wt];simp only [length_append,length_cons,length_nil] at *;omega
end Go.Xp
namespace Go.Im
open Go.Xp Go.Sp
def pW (g:Nat->Option (T × Nat)):List Int->Nat->List T->Option (List T × Nat)
 | [],next,acc=>some (acc,next)
 | k::r,next,acc=>if k=(next:Int) then match g next with
  | none=>none
  | some (t,e)=>pW g r e (acc++[t])
  else none
def nU (nodes:List Nd):Nat->Nat->Option (T × Nat)
 | 0,_=>none
 | f+1,a=>match nodes[a]? with
  | none=>none
  | some n=>match pW (nU nodes f) n.kids (a+1) [] with
   | none=>none
   | some (l,e)=>if n.at_ < 0 then none else some (.mk n l,e)
def tr (nodes:List Nd) (a:Nat):Option (T × Nat):=nU nodes (nodes.length+1) a
theorem FU {nodes:List Nd} {g:Nat->Option (T × Nat)} (hg:∀ a t e,g a=some (t,e)->a < e/\e<=nodes.length/\e=a+aB t/\(nodes.take e).drop a=lG a t) :
  ∀ (ks:List Int) (next:Nat) (acc l:List T) (e:Nat),next<=nodes.length->pW g ks next acc=some (l,e)->∃ l',l=acc++l'/\e=next+aw l'/\e<=nodes.length/\ks=bL next l'/\(nodes.take e).drop next=dX next l'
 | [],next,acc,l,e,hn,h=>by
  rw [pW] at h;cases h;exact ⟨[],by simp,by simp [aw],hn,rfl,by rw [dX];exact eq_nil_of_length_eq_zero (by rw [length_drop,length_take];omega)⟩
 | k::r,next,acc,l,e,hn,h=>by
  rw [pW] at h;split at h
  ·rename_i hk
   cases hq:g next with
   | none=>rw [hq] at h;cases h
   | some x =>
    obtain ⟨t,e1⟩:=x;rw [hq] at h;simp only at h;obtain ⟨a1,a2,a3,a4⟩:=hg _ _ _ hq;obtain ⟨l',b1,b2,b3,b4,b5⟩:=FU hg r e1 (acc++[t]) l e a2 h;refine ⟨t::l',by rw [b1];simp,by rw [aw];omega,b3,by rw [bL,<-a3,<-b4,hk],?_⟩;rw [dX,<-a3,<-a4,<-b5]
    have he:e1<=e:=by omega
    have h1:(nodes.take e).take e1=nodes.take e1:=by rw [List.take_take,Nat.min_eq_left he]
    have h2:(nodes.take e).drop next=((nodes.take e).take e1).drop next++(nodes.take e).drop e1:=by
     have h3:nodes.take e=(nodes.take e).take e1++(nodes.take e).drop e1:=(take_append_drop _ _).symm
     have h4:((nodes.take e).take e1).length=e1:=by rw [length_take,length_take];omega
     rw [h3,List.drop_append_of_le_length (by rw [h4];omega)];rw [<-h3]
    rw [h2,h1]
  ·cases h
theorem Ah {nodes:List Nd}:∀ (f a:Nat) (t:T) (e:Nat),nU nodes f a=some (t,e)->a < e/\e<=nodes.length/\e=a+aB t/\(nodes.take e).drop a=lG a t
 | 0,a,t,e,h=>by cases h
 | f+1,a,t,e,h=>by
  rw [nU] at h
  cases hn:nodes[a]? with
  | none=>rw [hn] at h;cases h
  | some n =>
   rw [hn] at h;simp only at h;have ao:=(List.getElem?_eq_some_iff.1 hn).1
   cases hk:pW (nU nodes f) n.kids (a+1) [] with
   | none=>rw [hk] at h;cases h
   | some x =>
    obtain ⟨l,e1⟩:=x;rw [hk] at h;simp only at h;split at h
    ·cases h
    ·cases h;obtain ⟨l',b1,b2,b3,b4,b5⟩:=FU (Ah f) n.kids (a+1) [] l e ao hk
     have:l'=l:=by rw [b1];rfl
     subst this;refine ⟨by omega,b3,by rw [aB];omega,?_⟩;rw [lG,<-b4,<-b5]
     have h1:(nodes.take e)[a]?=some n:=by rw [getElem?_take,if_pos (by omega)];exact hn
     obtain ⟨h2,h3⟩:=List.getElem?_eq_some_iff.1 h1;rw [List.drop_eq_getElem_cons h2,h3]
def iq (nodes:List Nd):List Fn->Nat->List T->Option (List T × Nat)
 | [],next,acc=>some (acc,next)
 | f::r,next,acc=>match tr nodes next with
  | none=>none
  | some (t,e)=>if f.body=(next:Int) then iq nodes r e (acc++[t]) else none
def cV (k:Int) (n:Nat):Bool :=
 if k=1\/k=2 then ((n:Int)==0)
 else if k=4\/k=14 then true
 else if k=3\/k=5\/k=7\/k=11\/k=12\/k=13 then ((n:Int)==1)
 else if k=6\/k=8\/k=10 then ((n:Int)==2)
 else if k=9 then ((n:Int)==2) || ((n:Int)==3)
 else false
mutual
def fQ:T->Bool
 | .mk n l=>cV n.kind l.length&&ux l
def ux:List T->Bool
 | []=>true
 | t::r=>fQ t&&ux r
end
theorem xI (t:T):fQ t=(cV t.n.kind t.kids.length&&ux t.kids):=by cases t;rw [fQ];rfl
theorem sO (l:List T):ux l=l.all fQ:=by
 induction l with
 | nil=>rfl
 | cons t l ih=>rw [ux,ih];rfl
end Go.Im
namespace Go.Im
open Go.Xp Go.Sp
mutual
def df (nodes:List Nd):Nat->T->Prop
 | a,.mk n l=>nodes[a]?=some n/\n.kids=bL (a+1) l/\dh nodes (a+1) l
def dh (nodes:List Nd):Nat->List T->Prop
 | _,[]=>True
 | a,t::r=>df nodes a t/\dh nodes (a+aB t) r
end
mutual
def xa:T->Prop
 | .mk n l=>0<=n.at_/\lO l
def lO:List T->Prop
 | []=>True
 | t::r=>xa t/\lO r
end
theorem gO (t:T):1<=aB t:=by rw [eo];omega
mutual
theorem df.le {nodes:List Nd}:∀ (t:T) (a:Nat),df nodes a t->a+aB t<=nodes.length
 | .mk n l,a,h=>by
  rw [df] at h;have h1:=(List.getElem?_eq_some_iff.1 h.1).1;have:=dh.le l (a+1) h.2.2 h1;rw [aB];omega
theorem dh.le {nodes:List Nd}:∀ (l:List T) (a:Nat),dh nodes a l->a<=nodes.length->a+aw l<=nodes.length
 | [],a,h,ha=>by rw [aw];exact ha
 | t::r,a,h,ha=>by
  rw [dh] at h;have h1:=df.le t a h.1;have:=dh.le r _ h.2 h1;rw [aw];omega
end
theorem Hg {nodes:List Nd}:∀ (f:Nat),(∀ (a d:Nat) (e:Int),nY nodes f a d=some e->0<=e->∃ t,df nodes a t/\e=((a+aB t:Nat):Int)) /\
  (∀ (ks:List Int) (next d:Nat) (e:Int),mY nodes f ks (next:Int) d=some e->0<=e->∃ l,dh nodes next l/\ks=bL next l/\e=((next+aw l:Nat):Int)):=by
 intro f
 induction f with
 | zero =>
  refine ⟨fun a d e h _=>by simp [nY] at h,fun ks next d e h _=>?_⟩
  cases ks with
  | nil=>rw [mY] at h;cases h;exact ⟨[],trivial,rfl,by simp [aw]⟩
  | cons k r=>simp [mY] at h
 | succ f ih =>
  refine ⟨fun a d e h he=>?_,fun ks next d e h he=>?_⟩
  ·rw [nY] at h;split at h
   ·cases h;omega
   ·cases hn:nodes[a]? with
    | none=>rw [hn] at h;cases h
    | some n =>
     rw [hn] at h;simp only at h;rw [show ((a:Int)+1)=((a+1:Nat):Int) by omega] at h;obtain ⟨l,h1,h2,h3⟩:=ih.2 _ _ _ _ h he;exact ⟨.mk n l,by rw [df];exact ⟨hn,h2,h1⟩,by rw [h3,aB];omega⟩
  ·cases ks with
   | nil=>rw [mY] at h;cases h;exact ⟨[],trivial,rfl,by simp [aw]⟩
   | cons k r =>
    rw [mY] at h;split at h
    ·rename_i hk;subst hk;rw [Int.toNat_natCast] at h
     cases hq:nY nodes f next (d+1) with
     | none=>rw [hq] at h;cases h
     | some e1 =>
      rw [hq] at h;simp only at h;split at h
      ·cases h;omega
      ·rename_i h0;obtain ⟨t,h1,h2⟩:=ih.1 _ _ _ hq (by omega);subst h2;obtain ⟨l,h3,h4,h5⟩:=ih.2 _ _ _ _ h he;refine ⟨t::l,by rw [dh];exact ⟨h1,h3⟩,by rw [bL,<-h4],by rw [h5,aw];omega⟩
    ·cases h;omega
theorem vB {nodes:List Nd}:∀ (f:Nat),(∀ (t:T) (a:Nat),df nodes a t->2 * aB t<=f->sub nodes f a=some t) /\
  (∀ (l:List T) (a:Nat) (acc:List T),dh nodes a l->2 * aw l+1<=f->n5 nodes f (bL a l) acc=some (acc++l)):=by
 intro f
 induction f with
 | zero =>
  exact ⟨fun t a _ h=>by have:=gO t;omega,fun l a acc _ h=>by omega⟩
 | succ f ih =>
  refine ⟨fun t a hs h=>?_,fun l a acc hs h=>?_⟩
  ·obtain ⟨n,l⟩:=t;rw [df] at hs;rw [aB] at h;rw [sub,hs.1];simp only;rw [hs.2.1,ih.2 l (a+1) [] hs.2.2 (by omega)];rfl
  ·cases l with
   | nil=>rw [bL,n5];simp
   | cons t l =>
    rw [dh] at hs;rw [aw] at h;have:=gO t;rw [bL,n5,if_neg (by omega),Int.toNat_natCast,ih.1 t a hs.1 (by omega)];simp only;rw [ih.2 l _ _ hs.2 (by omega)];simp
theorem Uf {nodes:List Nd}:∀ (f:Nat) (t:T) (a:Nat),df nodes a t->xa t->aB t<=f->nU nodes f a=some (t,a+aB t):=by
 intro f
 induction f with
 | zero=>intro t a _ _ h;have:=gO t;omega
 | succ f ih =>
  intro t a hs ha h;obtain ⟨n,l⟩:=t
  have key:∀ (l:List T) (a:Nat) (acc:List T),dh nodes a l->lO l->aw l<=f->pW (nU nodes f) (bL a l) a acc=some (acc++l,a+aw l):=by
   intro l
   induction l with
   | nil=>intro a acc _ _ _;rw [bL,pW,aw];simp
   | cons t l ih2 =>
    intro a acc hs ha h;rw [dh] at hs;rw [lO] at ha;rw [aw] at h;rw [bL,pW,if_pos rfl,ih t a hs.1 ha.1 (by omega)];simp only;rw [ih2 _ _ hs.2 ha.2 (by omega),aw];simp [Nat.add_assoc]
  rw [df] at hs;rw [xa] at ha;rw [aB] at h;rw [nU,hs.1];simp only;rw [hs.2.1,key l (a+1) [] hs.2.2 ha.2 (by omega)];simp only;rw [if_neg (by omega),aB];simp only [nil_append,Option.some.injEq,Prod.mk.injEq,true_and];omega
theorem T0 {nodes:List Nd}:∀ (f:Nat) (t:T) (a e:Nat),nU nodes f a=some (t,e)->df nodes a t/\e=a+aB t/\xa t:=by
 intro f
 induction f with
 | zero=>intro t a e h;cases h
 | succ f ih =>
  intro t a e h
  have key:∀ (ks:List Int) (next:Nat) (acc l:List T) (e:Nat),pW (nU nodes f) ks next acc=some (l,e)->∃ l',l=acc++l'/\dh nodes next l'/\ks=bL next l'/\e=next+aw l'/\lO l':=by
   intro ks
   induction ks with
   | nil=>intro next acc l e h;rw [pW] at h;cases h;exact ⟨[],by simp,trivial,rfl,by simp [aw],trivial⟩
   | cons k r ih2 =>
    intro next acc l e h
    rw [pW] at h;split at h
    ·rename_i hk
     cases hq:nU nodes f next with
     | none=>rw [hq] at h;cases h
     | some x =>
      obtain ⟨t,e1⟩:=x;rw [hq] at h;simp only at h;obtain ⟨a1,a2,a3⟩:=ih _ _ _ hq;subst a2;obtain ⟨l',b1,b2,b3,b4,b5⟩:=ih2 _ _ _ _ h;exact ⟨t::l',by rw [b1];simp,by rw [dh];exact ⟨a1,b2⟩,by rw [bL,hk,b3],by rw [b4,aw];omega,by rw [lO];exact ⟨a3,b5⟩⟩
    ·cases h
  rw [nU] at h
  cases hn:nodes[a]? with
  | none=>rw [hn] at h;cases h
  | some n =>
   rw [hn] at h;simp only at h
   cases hk:pW (nU nodes f) n.kids (a+1) [] with
   | none=>rw [hk] at h;cases h
   | some x =>
    obtain ⟨l,e1⟩:=x;rw [hk] at h;simp only at h;split at h
    ·cases h
    ·rename_i h0;cases h;obtain ⟨l',b1,b2,b3,b4,b5⟩:=key _ _ _ _ _ hk
     have:l'=l:=by rw [b1];rfl
     subst this;exact ⟨by rw [df];exact ⟨hn,b3,b2⟩,by rw [b4,aB];omega,by rw [xa];exact ⟨by omega,b5⟩⟩
theorem QI {nodes:List Nd} (hl:nodes.length<=800):∀ (f:Nat),(∀ (t:T) (a d:Nat),df nodes a t->d<=a->2 * aB t<=f->nY nodes f a d=some ((a+aB t:Nat):Int)) /\
  (∀ (l:List T) (a d:Nat),dh nodes a l->d < a->2 * aw l+1<=f->mY nodes f (bL a l) (a:Int) d=some ((a+aw l:Nat):Int)):=by
 intro f
 induction f with
 | zero =>
  exact ⟨fun t a d _ _ h=>by have:=gO t;omega,fun l a d _ _ h=>by omega⟩
 | succ f ih =>
  refine ⟨fun t a d hs hd h=>?_,fun l a d hs hd h=>?_⟩
  ·obtain ⟨n,l⟩:=t;rw [df] at hs;rw [aB] at h |-;have ao:=(List.getElem?_eq_some_iff.1 hs.1).1;rw [nY,if_neg (by omega),hs.1];simp only;rw [show ((a:Int)+1)=((a+1:Nat):Int) by omega,hs.2.1,ih.2 l (a+1) d hs.2.2 (by omega) (by omega)]
   congr 1;omega
  ·cases l with
   | nil=>rw [bL,mY,aw];simp
   | cons t l =>
    rw [dh] at hs;rw [aw] at h |-;have:=gO t;rw [bL,mY,if_pos rfl,Int.toNat_natCast,ih.1 t a (d+1) hs.1 (by omega) (by omega)];simp only;rw [if_neg (by omega),ih.2 l _ d hs.2 (by omega) (by omega)]
    congr 1;omega
theorem KL {nodes:List Nd}:∀ (f:Nat),(∀ (a d:Nat),2 * (nodes.length - a)+1<=f->∃ e,nY nodes f a d=some e/\(0<=e->(a:Int) < e/\a < nodes.length)) /\
  (∀ (ks:List Int) (next d:Nat),2 * (nodes.length - next)+2<=f->∃ e,mY nodes f ks (next:Int) d=some e/\(0<=e->(next:Int)<=e)):=by
 intro f
 induction f with
 | zero=>exact ⟨fun a d h=>by omega,fun ks next d h=>by omega⟩
 | succ f ih =>
  refine ⟨fun a d h=>?_,fun ks next d h=>?_⟩
  ·rw [nY];split
   ·exact ⟨-1,rfl,fun h=>by omega⟩
   ·rename_i hc
    cases hn:nodes[a]? with
    | none=>rw [List.getElem?_eq_none_iff] at hn;omega
    | some n =>
     simp only;rw [show ((a:Int)+1)=((a+1:Nat):Int) by omega];obtain ⟨e,h1,h2⟩:=ih.2 n.kids (a+1) d (by omega);exact ⟨e,h1,fun h=>⟨by have:=h2 h;omega,by omega⟩⟩
  ·cases ks with
   | nil=>rw [mY];exact ⟨_,rfl,fun _=>Int.le_refl _⟩
   | cons k r =>
    rw [mY];split
    ·rename_i hk;subst hk;rw [Int.toNat_natCast]
     obtain ⟨e,h1,h2⟩:=ih.1 next (d+1) (by omega)
     rw [h1];simp only;split
     ·exact ⟨-1,rfl,fun h=>by omega⟩
     ·rename_i h0;have h3:=h2 (by omega);obtain ⟨m,rfl⟩:∃ m:Nat,e=(m:Int):=⟨e.toNat,by omega⟩;obtain ⟨e',h4,h5⟩:=ih.2 r m d (by omega);exact ⟨e',h4,fun h=>by have:=h5 h;omega⟩
    ·exact ⟨-1,rfl,fun h=>by omega⟩
def fw (Q:Fn->T->Prop):List Fn->Nat->List T->Prop
 | [],_,[]=>True
 | f::r,a,t::l=>f.body=(a:Int)/\Q f t/\fw Q r (a+aB t) l
 | _,_,_=>False
theorem fw.len {Q:Fn->T->Prop}:∀ {fns:List Fn} {a:Nat} {l:List T},fw Q fns a l->fns.length=l.length
 | [],_,[],_=>rfl
 | f::r,a,t::l,h=>by rw [fw] at h;rw [length_cons,length_cons,fw.len h.2.2]
 | [],_,t::l,h=>by cases h
 | f::r,_,[],h=>by cases h
theorem fw.mono {Q R:Fn->T->Prop}:∀ {fns:List Fn} {a:Nat} {l:List T},fw Q fns a l->(∀ f t,f∈fns->t∈l->Q f t->R f t)->fw R fns a l
 | [],_,[],_,_=>trivial
 | f::r,a,t::l,h,hq=>by
  rw [fw] at h |-;exact ⟨h.1,hq _ _ mem_cons_self mem_cons_self h.2.1,fw.mono h.2.2 fun f t hf ht=>hq f t (mem_cons_of_mem _ hf) (mem_cons_of_mem _ ht)⟩
 | [],_,t::l,h,_=>by cases h
 | f::r,_,[],h,_=>by cases h
theorem fw.at_ {Q:Fn->T->Prop}:∀ {fns:List Fn} {a:Nat} {l:List T},fw Q fns a l->∀ (i:Nat) f t,fns[i]?=some f->l[i]?=some t->f.body=((a+aw (l.take i):Nat):Int)/\Q f t
 | [],_,[],_,i,f,t,h1,h2=>by simp at h1
 | f::r,a,t::l,h,i,f',t',h1,h2=>by
  rw [fw] at h
  cases i with
  | zero=>cases h1;cases h2;rw [take_zero,aw];exact ⟨h.1,h.2.1⟩
  | succ i =>
   obtain ⟨k1,k2⟩:=fw.at_ h.2.2 i f' t' (by simpa using h1) (by simpa using h2);exact ⟨by rw [k1,take_succ_cons,aw];omega,k2⟩
 | [],_,t::l,h,_,_,_,_,_=>by cases h
 | f::r,_,[],h,_,_,_,_,_=>by cases h
structure Ng (f:Fn) (t:T):Prop where
 name:be f.name=true
 params:ca f.params=true
 kind:t.n.kind=14
 all:cZ t=true
theorem yY {nodes:List Nd}:∀ (fns:List Fn) (next:Nat) (e:Int),fS nodes fns (next:Int)=some (some e)->∃ l,dh nodes next l/\fw Ng fns next l/\e=((next+aw l:Nat):Int)
 | [],next,e,h=>by rw [fS] at h;cases h;exact ⟨[],trivial,trivial,by simp [aw]⟩
 | f::r,next,e,h=>by
  rw [fS,Int.toNat_natCast] at h
  cases hn:nY nodes (fN nodes) next 0 with
  | none=>rw [hn] at h;cases h
  | some e1 =>
   rw [hn] at h;simp only at h;split at h
   ·cases h
   ·rename_i hc;split at h
    ·cases h
    ·rename_i hp;obtain ⟨t,h1,h2⟩:=(Hg _).1 _ _ _ hn (by omega);have hle:=df.le t _ h1;rw [(vB _).1 t next h1 (by unfold fN;omega)] at h;simp only at h;split at h
     ·cases h
     ·rename_i hk;subst h2;obtain ⟨l,k1,k2,k3⟩:=yY r _ e h;refine ⟨t::l,by rw [dh];exact ⟨h1,k1⟩,?_,by rw [k3,aw];omega⟩;rw [fw];refine ⟨by omega,⟨?_,?_,?_,?_⟩,k2⟩
      ·cases hq:be f.name with
       | true=>rfl
       | false=>exact absurd (.inr (.inl hq)) hc
      ·simpa using hp
      ·exact Decidable.byContradiction fun hq=>hk (.inl hq)
      ·cases hq:cZ t with
       | true=>rfl
       | false=>exact absurd (.inr hq) hk
theorem yX {nodes:List Nd} (hl:nodes.length<=800):∀ (fns:List Fn) (next:Nat) (l:List T),dh nodes next l->fw Ng fns next l->fS nodes fns (next:Int)=some (some ((next+aw l:Nat):Int))
 | [],next,[],_,_=>by rw [fS,aw];rfl
 | f::r,next,t::l,h,hf=>by
  rw [dh] at h;rw [fw] at hf;have hle:=df.le t _ h.1;rw [fS,Int.toNat_natCast,(QI hl _).1 t next 0 h.1 (Nat.zero_le _) (by unfold fN;omega)];simp only;rw [if_neg (by rw [hf.2.1.name];rintro (h | h | h);exact h hf.1;cases h;omega),if_neg (by rw [hf.2.1.params];decide),(vB _).1 t next h.1 (by unfold fN;omega)];simp only;rw [if_neg (by rw [hf.2.1.all];rintro (h | h);exact h hf.2.1.kind;cases h),yX hl r _ l h.2 hf.2.2,aw]
  congr 2;omega
 | [],_,t::l,_,h=>by cases h
 | f::r,_,[],_,h=>by cases h
theorem wO {nodes:List Nd}:∀ (fns:List Fn) (next:Nat),∃ r,fS nodes fns (next:Int)=some r
 | [],next=>⟨_,by rw [fS]⟩
 | f::r,next=>by
  obtain ⟨e,h1,h2⟩:=(KL (nodes:=nodes) (fN nodes)).1 next 0 (by unfold fN;omega)
  rw [fS,Int.toNat_natCast,h1];simp only;split
  ·exact ⟨_,rfl⟩
  ·rename_i hc;split
   ·exact ⟨_,rfl⟩
   ·obtain ⟨t,k1,k2⟩:=(Hg _).1 _ _ _ h1 (by omega);have hle:=df.le t _ k1;rw [(vB _).1 t next k1 (by unfold fN;omega)];simp only;split
    ·exact ⟨_,rfl⟩
    ·rw [k2];exact wO r _
theorem JY (p:Src):∃ b,nN p=some b:=by
 unfold nN;split
 ·exact ⟨_,rfl⟩
 ·split
  ·exact ⟨_,rfl⟩
  ·obtain ⟨r,h⟩:=wO (nodes:=p.nodes) p.fns 0;rw [show ((0:Nat):Int)=0 from rfl] at h;rw [h]
   cases r <;> exact ⟨_,rfl⟩
structure fK (p:Src) (l:List T):Prop where
 globals:ca p.globals=true
 arrays:p.arrays.all nX=true
 st:dh p.nodes 0 l
 fns:fw Ng p.fns 0 l
 len:aw l=p.nodes.length
 few:p.nodes.length<=800
theorem RD {p:Src} (h:nN p=some true):∃ l,fK p l:=by
 unfold nN at h;split at h
 ·cases h
 ·rename_i h1;split at h
  ·cases h
  ·rename_i h2;rw [show (0:Int)=((0:Nat):Int) from rfl] at h
   cases hf:fS p.nodes p.fns ((0:Nat):Int) with
   | none=>rw [hf] at h;cases h
   | some r =>
    rw [hf] at h
    cases r with
    | none=>cases h
    | some e =>
     obtain ⟨l,k1,k2,k3⟩:=yY _ _ _ hf;simp only [Option.some.injEq,Bool.and_eq_true,beq_iff_eq,decide_eq_true_eq] at h;exact ⟨l,by simpa using h1,by simpa using h2,k1,k2,by omega,by omega⟩
theorem fK.nN {p:Src} {l:List T} (h:fK p l):nN p=some true:=by
 unfold Go.Sp.nN;rw [if_neg (by rw [h.globals];decide),if_neg (by rw [h.arrays];decide),show (0:Int)=((0:Nat):Int) from rfl,yX h.few _ _ _ h.st h.fns];simp only [Option.some.injEq,Bool.and_eq_true,beq_iff_eq,decide_eq_true_eq];have:=h.len;have:=h.few;omega
theorem BG {nodes:List Nd}:∀ (fns:List Fn) (next:Nat) (acc l:List T) (e:Nat),iq nodes fns next acc=some (l,e)->∃ l',l=acc++l'/\dh nodes next l'/\fw (fun _ _=>True) fns next l'/\e=next+aw l'/\lO l'
 | [],next,acc,l,e,h=>by rw [iq] at h;cases h;exact ⟨[],by simp,trivial,trivial,by simp [aw],trivial⟩
 | f::r,next,acc,l,e,h=>by
  rw [iq] at h
  cases hq:tr nodes next with
  | none=>rw [hq] at h;cases h
  | some x =>
   obtain ⟨t,e1⟩:=x;rw [hq] at h;simp only at h;split at h
   ·rename_i hb;obtain ⟨a1,a2,a3⟩:=T0 _ _ _ _ hq;subst a2;obtain ⟨l',b1,b2,b3,b4,b5⟩:=BG r _ _ _ _ h;exact ⟨t::l',by rw [b1];simp,by rw [dh];exact ⟨a1,b2⟩,by rw [fw];exact ⟨hb,trivial,b3⟩,by rw [b4,aw];omega,by rw [lO];exact ⟨a3,b5⟩⟩
   ·cases h
theorem G5 {nodes:List Nd} {Q:Fn->T->Prop}:∀ (fns:List Fn) (next:Nat) (acc l:List T),dh nodes next l->fw Q fns next l->lO l->iq nodes fns next acc=some (acc++l,next+aw l)
 | [],next,acc,[],_,_,_=>by rw [iq,aw];simp
 | f::r,next,acc,t::l,h,hf,ha=>by
  rw [dh] at h;rw [fw] at hf;rw [lO] at ha;have hle:=df.le t _ h.1;rw [iq,tr,Uf _ t next h.1 ha.1 (by omega)];simp only;rw [if_pos hf.1,G5 r _ _ l h.2 hf.2.2 ha.2,aw];simp [Nat.add_assoc]
 | [],_,_,t::l,_,h,_=>by cases h
 | f::r,_,_,[],_,h,_=>by cases h
mutual
theorem df.fl {nodes:List Nd}:∀ (t:T) (a:Nat),df nodes a t->(nodes.take (a+aB t)).drop a=lG a t
 | .mk n l,a,h=>by
  have hle:=df.le _ _ h;rw [df] at h;rw [aB] at hle;have h1:=dh.fl l (a+1) h.2.2 (by have:=(List.getElem?_eq_some_iff.1 h.1).1;omega);rw [lG,<-h.2.1,<-h1,aB,show a+(aw l+1)=a+1+aw l by omega]
  have h2:(nodes.take (a+1+aw l))[a]?=some n:=by rw [getElem?_take,if_pos (by omega)];exact h.1
  obtain ⟨h3,h4⟩:=List.getElem?_eq_some_iff.1 h2;rw [List.drop_eq_getElem_cons h3,h4]
theorem dh.fl {nodes:List Nd}:∀ (l:List T) (a:Nat),dh nodes a l->a<=nodes.length->(nodes.take (a+aw l)).drop a=dX a l
 | [],a,h,ha=>by
  rw [dX];exact eq_nil_of_length_eq_zero (by rw [aw,length_drop,length_take];omega)
 | t::r,a,h,ha=>by
  rw [dh] at h;have hle:=df.le _ _ h.1;have h1:=df.fl t a h.1;have h2:=dh.fl r (a+aB t) h.2 hle;have zP:=dh.le r _ h.2 hle;rw [dX,<-h1,<-h2,aw,show a+(aB t+aw r)=a+aB t+aw r by omega]
  have h3:nodes.take (a+aB t)=(nodes.take (a+aB t+aw r)).take (a+aB t):=by rw [List.take_take,Nat.min_eq_left (by omega)]
  rw [h3];generalize hm:nodes.take (a+aB t+aw r)=m
  have dw:m.length=a+aB t+aw r:=by rw [<-hm,length_take];omega
  rw [<-List.drop_append_of_le_length (by rw [length_take];omega),take_append_drop]
end
theorem dh.all {nodes:List Nd} {l:List T} (h:dh nodes 0 l) (hl:aw l=nodes.length):nodes=dX 0 l:=by
 have:=dh.fl l 0 h (Nat.zero_le _);rw [Nat.zero_add,hl,List.take_length,List.drop_zero] at this;exact this
end Go.Im
namespace Go.Im
open Go.Xp Go.Sp
def nK (n:Int):ae:=if n < 0 then 45::cn n.natAbs else cn n.toNat
def rq (s:ae):Int:=match levels.findIdx? (fun l=>l.contains s) with | some i=>(i:Int) | none => -1
def tI (b:Bool) (x:ae):ae:=if b=true then (40::x)++[41] else x
def kZ (t:T) (least:Int):Bool:=(t.n.kind==6)&&decide (rq t.n.s < least)
def tw (n:Nd) (l:List T) (x:List ae):ae :=
 if n.kind=1 then nK n.n
 else if n.kind=3 then ((n.s++[91])++x.getD 0 [])++[93]
 else if n.kind=4 then ((n.s++[40])++bx x)++[41]
 else if n.kind=5 then (n.s++[32])++(match l with | a::_=>tI (a.n.kind==6) (x.getD 0 []) | []=>[])
 else if n.kind=6 then (match l with
  | a::b::_=>(((tI (kZ a (rq n.s)) (x.getD 0 [])++[32])++n.s)++[32])++tI (kZ b (rq n.s+1)) (x.getD 1 [])
  | _=>[])
 else n.s
mutual
def cJ:T->ae
 | .mk n l=>tw n l (fA l)
def fA:List T->List ae
 | []=>[]
 | t::r=>cJ t::fA r
end
theorem MO (t:T):cJ t=tw t.n t.kids (fA t.kids):=by cases t;rw [cJ];rfl
theorem Ct (l:List T):fA l=l.map cJ:=by
 induction l with
 | nil=>rfl
 | cons t l ih=>rw [fA,ih];rfl
mutual
def jx:T->Nat
 | .mk n l=>n.s.length+60+fM l
def fM:List T->Nat
 | []=>0
 | t::r=>jx t+fM r
end
theorem oy (t:T):jx t=t.n.s.length+60+fM t.kids:=by cases t;rw [jx];rfl
theorem tA {l:List T} {t:T} (h:t∈l):jx t<=fM l:=by
 induction l with
 | nil=>cases h
 | cons a l ih =>
  rw [fM]
  rcases List.mem_cons.1 h with rfl | h
  ·omega
  ·have:=ih h;omega
theorem Om (l:List T):l.length * 60<=fM l:=by
 induction l with
 | nil=>simp
 | cons t l ih=>rw [fM,oy,length_cons];omega
theorem CG {n:Nat} (h:n < 100000000000000000000):(cn n).length<=20:=Hb 19 n (by simpa using h)
theorem xH {n:Int} (h : -9223372036854775808<=n/\n<=9223372036854775807):(nK n).length<=21:=by
 unfold nK;split
 ·have:=CG (n:=n.natAbs) (by omega);simp only [length_cons];omega
 ·have:=CG (n:=n.toNat) (by omega);omega
theorem ye (b:Bool) (x:ae):(tI b x).length<=x.length+2:=by
 unfold tI;split <;> simp
theorem D9:∀ (r:List ae),(r.flatMap fun y=>44::32::y).length=(r.map fun y=>y.length+2).sum
 | []=>rfl
 | z::r=>by
  have:=D9 r;simp only [flatMap_cons,length_append,List.map_cons,sum_cons,length_cons] at this |-;omega
theorem zX:∀ (x:List ae),(bx x).length<=(x.map fun y=>y.length+2).sum
 | []=>by simp [bx]
 | y::r=>by
  have h:=D9 r;rw [List.map_cons,sum_cons,bx,length_append,h];omega
mutual
def oH:T->Prop
 | .mk n l=>(-9223372036854775808<=n.n/\n.n<=9223372036854775807)/\pJ l
def pJ:List T->Prop
 | []=>True
 | t::r=>oH t/\pJ r
end
theorem qy (t:T):oH t↔(-9223372036854775808<=t.n.n/\t.n.n<=9223372036854775807)/\pJ t.kids:=by cases t;rw [oH];exact Iff.rfl
theorem jw {l:List T} {t:T} (h:pJ l) (ht:t∈l):oH t:=by
 induction l with
 | nil=>cases ht
 | cons a l ih =>
  rw [pJ] at h
  rcases List.mem_cons.1 ht with rfl | ht
  ·exact h.1
  ·exact ih h.2 ht
theorem vF:∀ (N:Nat) (t:T),aB t<=N->oH t->(cJ t).length+4<=jx t:=by
 intro N
 induction N with
 | zero=>intro t h;rw [eo] at h;omega
 | succ N ih =>
  intro t hN hn;rw [eo] at hN;rw [qy] at hn
  have hk:∀ a∈t.kids,(cJ a).length+4<=jx a:=fun a ha=>by
   refine ih a ?_ (jw hn.2 ha)
   have:∀ (l:List T),a∈l->aB a<=aw l:=by
    intro l
    induction l with
    | nil=>intro h;cases h
    | cons b l ih2 =>
     intro h;rw [aw]
     rcases List.mem_cons.1 h with rfl | h
     ·omega
     ·have:=ih2 h;omega
   have:=this _ ha;omega
  have Tf:((fA t.kids).map fun y=>y.length+2).sum<=fM t.kids:=by
   have:∀ (l:List T),(∀ a∈l,(cJ a).length+4<=jx a)->((fA l).map fun y=>y.length+2).sum<=fM l:=by
    intro l
    induction l with
    | nil=>intro _;simp [fA]
    | cons a l ih2 =>
     intro h;have h1:=h a (mem_cons_self)
     have h2:=ih2 fun b hb=>h b (mem_cons_of_mem _ hb)
     rw [fA,fM,List.map_cons,sum_cons];omega
   exact this _ hk
  have h0:((fA t.kids).getD 0 []).length<=fM t.kids:=by
   cases hl:t.kids with
   | nil=>simp [fA]
   | cons a r =>
    have:=hk a (by rw [hl];exact mem_cons_self);rw [fA,fM];simp;omega
  have X8:∀ a b r,t.kids=a::b::r->((fA t.kids).getD 0 []).length+((fA t.kids).getD 1 []).length+8<=fM t.kids:=fun a b r hl=>by
   have h1:=hk a (by rw [hl];exact mem_cons_self);have h2:=hk b (by rw [hl];exact mem_cons_of_mem _ mem_cons_self);rw [hl,fA,fA,fM,fM];simp;omega
  rw [MO,oy];unfold tw;split
  ·have:=xH hn.1;omega
  ·split
   ·simp only [length_append,length_cons,length_nil];omega
   ·split
    ·have:=zX (fA t.kids);simp only [length_append,length_cons,length_nil];omega
    ·split
     ·cases hl:t.kids with
      | nil=>simp <;> omega
      | cons a r =>
       simp only [length_append,length_cons,length_nil];have:=ye (a.n.kind==6) ((fA (a::r)).getD 0 []);rw [hl] at h0;omega
     ·split
      ·match hl:t.kids with
       | []=>simp <;> omega
       | [a]=>simp <;> omega
       | a::b::r =>
        have h1:=X8 a b r hl;rw [hl] at h1;have h2:=ye (kZ a (rq t.n.s)) ((fA (a::b::r)).getD 0 []);have h3:=ye (kZ b (rq t.n.s+1)) ((fA (a::b::r)).getD 1 []);simp only [length_append,length_cons,length_nil];omega
      ·omega
end Go.Im
namespace Go.Im
open Go.Xp Go.Sp
def wX (own:ae) (n:Nd) (k:Nat) (x b:List ae):ae :=
 if n.kind=13 then ((([118,97,114,32]++n.s)++[32,61,32])++x.getD 0 [])++[59]
 else if n.kind=7 then ((n.s++[32,61,32])++x.getD 0 [])++[59]
 else if n.kind=8 then ((((n.s++[91])++x.getD 0 [])++[93,32,61,32])++x.getD 1 [])++[59]
 else if n.kind=9 then (if k=3 then ((([105,102,32,40]++x.getD 0 [])++[41,32])++b.getD 1 [])++([32,101,108,115,101,32]++b.getD 2 []) else (([105,102,32,40]++x.getD 0 [])++[41,32])++b.getD 1 [])
 else if n.kind=10 then (([119,104,105,108,101,32,40]++x.getD 0 [])++[41,32])++b.getD 1 []
 else if n.kind=11 then ([114,101,116,117,114,110,32]++x.getD 0 [])++[59]
 else if n.kind=12 then x.getD 0 []++[59]
 else own
section
variable (tx:T->ae) (inl:List ae->Nat->ae)
mutual
def jJ:Nat->T->ae
 | d,.mk n l=>wX (tx (.mk n l)) n l.length (l.map tx) (pd d l)
def pd:Nat->List T->List ae
 | _,[]=>[]
 | d,t::r=>mG d t::pd d r
def mG:Nat->T->ae
 | d,.mk n l=>inl (wW (d+1) l) d
def wW:Nat->List T->List ae
 | _,[]=>[]
 | d,t::r=>jJ d t::wW d r
end
end
theorem MH (tx:T->ae) (inl:List ae->Nat->ae) (d:Nat) (t:T):jJ tx inl d t=wX (tx t) t.n t.kids.length (t.kids.map tx) (pd tx inl d t.kids):=by cases t;rw [jJ];rfl
theorem Ks (tx:T->ae) (inl:List ae->Nat->ae) (d:Nat) (t:T):mG tx inl d t=inl (wW tx inl (d+1) t.kids) d:=by cases t;rw [mG];rfl
theorem G4 (tx:T->ae) (inl:List ae->Nat->ae) (d:Nat) (l:List T):pd tx inl d l=l.map (mG tx inl d):=by
 induction l with
 | nil=>rfl
 | cons t l ih=>rw [pd,ih];rfl
theorem Ij (tx:T->ae) (inl:List ae->Nat->ae) (d:Nat) (l:List T):wW tx inl d l=l.map (jJ tx inl d):=by
 induction l with
 | nil=>rfl
 | cons t l ih=>rw [wW,ih];rfl
def rE (acc:ae) (l:List ae):ae:=l.foldl (fun acc s=>acc++(s++[32])) acc
def fu (l:List ae) (d:Nat):ae:=rE [123,32] l++[125]
def jX:List ae->Nat
 | []=>0
 | s::l=>s.length+1+jX l
theorem sr (l:List ae):∀ acc,(rE acc l).length=acc.length+jX l:=by
 induction l with
 | nil=>intro acc;simp [rE,jX]
 | cons s l ih =>
  intro acc;have:=ih (acc++(s++[32]));simp only [rE,foldl_cons,jX,length_append,length_cons,length_nil] at this |-;omega
theorem FJ (a b:List ae):jX (a++b)=jX a+jX b:=by
 induction a with
 | nil=>simp [jX]
 | cons s a ih=>simp only [cons_append,jX,ih];omega
theorem MK (l:List ae) (k:Nat):jX (l.take k)<=jX l:=by
 have:jX l=jX (l.take k)+jX (l.drop k):=by rw [<-FJ,take_append_drop]
 omega
theorem Kz (acc:ae) (l:List ae) (s:ae):rE acc (l++[s])=rE acc l++(s++[32]):=by simp [rE]
theorem RF {l:List ae} {s:ae} (h:s∈l):s.length<=jX l:=by
 induction l with
 | nil=>cases h
 | cons a l ih =>
  rw [jX]
  rcases List.mem_cons.1 h with rfl | h
  ·omega
  ·have:=ih h;omega
theorem N4 {l:List ae} {d:Nat} {s:ae} (h:s∈l):s.length<=(fu l d).length:=by
 have h1:=RF h;have h2:=sr l [123,32];unfold fu;rw [length_append,h2];omega
end Go.Im
namespace Go.Im
open Go.Xp Go.Sp
def g1 (s:ae):ae:=([105,110,116,32]++s)++[59,10]
def a1 (a:Ar):ae:=((([105,110,116,32]++a.name)++[91])++nK a.size)++[93,59,10]
def f1 (tx:T->ae) (inl:List ae->Nat->ae) (x:Fn × T):ae:=((((([102,117,110,99,32]++x.1.name)++[40])++bx x.1.params)++[41,32])++mG tx inl 0 x.2)++[10]
def dd {α:Type} (f:α->ae):ae->List α->ae
 | acc,[]=>acc
 | acc,x::l=>dd f (acc++f x) l
theorem xc {α:Type} (f:α->ae) (l:List α) (x:α):∀ acc,dd f acc (l++[x])=dd f acc l++f x:=by
 induction l with
 | nil=>intro acc;rfl
 | cons y l ih=>intro acc;simp only [cons_append,dd];exact ih _
theorem Nv {α:Type} (f:α->ae) (l k:List α):∀ acc,dd f acc (l++k)=dd f (dd f acc l) k:=by
 induction l with
 | nil=>intro acc;rfl
 | cons y l ih=>intro acc;simp only [cons_append,dd];exact ih _
theorem BI {α:Type} (f:α->ae) (l:List α):∀ acc,acc.length<=(dd f acc l).length:=by
 induction l with
 | nil=>intro acc;exact Nat.le_refl _
 | cons y l ih=>intro acc;have:=ih (acc++f y);rw [dd];rw [length_append] at this;omega
theorem xd {α:Type} (f:α->ae) (l:List α) (k:Nat) (acc:ae):(dd f acc (l.take k)).length<=(dd f acc l).length:=by
 have:dd f acc l=dd f (dd f acc (l.take k)) (l.drop k):=by rw [<-Nv,take_append_drop]
 rw [this];exact BI f _ _
def mA (tx:T->ae) (inl:List ae->Nat->ae) (p:Src) (trees:List T):ae:=dd (f1 tx inl) (dd a1 (dd g1 [] p.globals) p.arrays) (p.fns.zip trees)
end Go.Im
namespace Go.Im
def eZ {α:Type} (p:α->α->Bool):List α->List α->Bool
 | [],[]=>true
 | a::r,b::s=>p a b&&eZ p r s
 | _,_=>false
theorem yi {α:Type} {p:α->α->Bool}:∀ {a b:List α},eZ p a b=true->a.length=b.length
 | [],[],_=>rfl
 | a::r,b::s,h=>by rw [eZ,Bool.and_eq_true] at h;rw [length_cons,length_cons,yi h.2]
 | [],b::s,h=>by cases h
 | a::r,[],h=>by cases h
theorem qV {α:Type} {p:α->α->Bool} {a b:List α} (h:a.length≠b.length):eZ p a b=false:=by
 cases hc:eZ p a b with
 | false=>rfl
 | true=>exact absurd (yi hc) h
theorem D4 {α:Type} {p:α->α->Bool}:∀ {a b:List α} {k:Nat} {x y:α},a[k]?=some x->b[k]?=some y->eZ p a b=true->p x y=true
 | a::r,b::s,0,x,y,h1,h2,h=>by cases h1;cases h2;rw [eZ,Bool.and_eq_true] at h;exact h.1
 | a::r,b::s,k+1,x,y,h1,h2,h=>by rw [eZ,Bool.and_eq_true] at h;exact D4 (by simpa using h1) (by simpa using h2) h.2
 | [],_,k,x,y,h1,h2,h=>by simp at h1
 | a::r,[],k,x,y,h1,h2,h=>by simp at h2
theorem qW {α:Type} {p:α->α->Bool} {a b:List α} {k:Nat} {x y:α} (h1:a[k]?=some x) (h2:b[k]?=some y) (h:p x y=false):eZ p a b=false:=by
 cases hc:eZ p a b with
 | false=>rfl
 | true=>have:=D4 h1 h2 hc;rw [h] at this;cases this
theorem Hh {α:Type} {p:α->α->Bool}:∀ {a b:List α},a.length=b.length->(∀ (k:Nat) x y,a[k]?=some x->b[k]?=some y->p x y=true)->eZ p a b=true
 | [],[],_,_=>rfl
 | a::r,b::s,hl,h=>by
  rw [eZ,h 0 a b rfl rfl,Hh (by simpa using hl) fun k x y h1 h2=>h (k+1) x y (by simpa using h1) (by simpa using h2)];rfl
 | [],b::s,hl,h=>by simp at hl
 | a::r,[],hl,h=>by simp at hl
def sw {α:Type} (p:α->α->Bool) (a b:List α) (k:Nat):Prop:=∀ j x y,j < k->a[j]?=some x->b[j]?=some y->p x y=true
theorem lF {α:Type} {p:α->α->Bool} {a b:List α} {k:Nat} {x y:α} (h1:a[k]?=some x) (h2:b[k]?=some y) (h:sw p a b k) (hp:p x y=true):sw p a b (k+1):=fun j u v hj h3 h4=>by
 by_cases he:j=k
 ·subst he;rw [h1] at h3;rw [h2] at h4;cases h3;cases h4;exact hp
 ·exact h j u v (by omega) h3 h4
theorem mZ {α:Type} {p:α->α->Bool} {a b:List α} (hl:a.length=b.length) (h:sw p a b a.length):eZ p a b=true :=
 Hh hl fun k x y h1 h2=>h k x y (List.getElem?_eq_some_iff.1 h1).1 h1 h2
def qN (a b:Go.Sp.Fn):Bool:=((a.name==b.name)&&eZ (fun x y=>x==y) a.params b.params)&&(a.body==b.body)
def kz (a b:Go.Xp.Nd):Bool:=(((a.kind==b.kind)&&(a.n==b.n))&&(a.s==b.s))&&eZ (fun x y=>x==y) a.kids b.kids
def yV (x y:Go.Xp.Ar):Bool:=(x.name==y.name)&&(x.size==y.size)
end Go.Im
namespace Go.Im
open Go.Xp Go.Sp
theorem Hl (l:List T):(aE l).length=l.length:=by rw [rY,length_map]
theorem xh (t:T):(er t).n=⟨t.n.kind,0,t.n.n,t.n.s,[]⟩:=by cases t;rw [er];rfl
theorem QK (t:T):(er t).kids=aE t.kids:=by cases t;rw [er];rfl
mutual
theorem vD:∀ t:T,aB (er t)=aB t
 | .mk n l=>by rw [er,aB,aB,vC l]
theorem vC:∀ l:List T,aw (aE l)=aw l
 | []=>by rw [aE]
 | t::r=>by rw [aE,aw,aw,vD t,vC r]
end
theorem C1 (m:Nat):∀ (l:List T) (i:Nat),ba m i (aE l)=ba m i l
 | [],i=>by rw [aE]
 | t::r,i=>by rw [aE,ba,ba,C1 m r (i+1),xh]
theorem Dl:∀ (l:List T),(aE l).all (fun x=>fZ x.n.kind)=l.all (fun x=>fZ x.n.kind)
 | []=>by rw [aE]
 | t::r=>by rw [aE,all_cons,all_cons,Dl r,xh]
theorem TN (n:Nd) (k:Nat) (kd:Nat->Bool) (bl:Bool) (h:0<=n.at_) (h':own ⟨n.kind,0,n.n,n.s,[]⟩ k kd bl=true):own n k kd bl=true:=by
 unfold own at h' |-;rw [if_neg (by simp)] at h';rw [if_neg (by simpa using h)];exact h'
mutual
theorem Ko:∀ t:T,cZ (er t)=true->xa t->cZ t=true
 | .mk n l,h,ha=>by
  rw [er,cZ,Bool.and_eq_true] at h;rw [xa] at ha;rw [cZ,Bool.and_eq_true];refine ⟨G2 l h.1 ha.2,?_⟩;have h2:own ⟨n.kind,0,n.n,n.s,[]⟩ (aE l).length (fun m=>ba m 0 (aE l)) ((aE l).all fun x=>fZ x.n.kind)=true:=h.2;rw [Hl,Dl] at h2;simp only [C1] at h2;exact TN n _ _ _ ha.1 h2
theorem G2:∀ l:List T,bK (aE l)=true->lO l->bK l=true
 | [],_,_=>rfl
 | t::r,h,ha=>by
  rw [aE,bK,Bool.and_eq_true] at h;rw [lO] at ha;rw [bK,Bool.and_eq_true];exact ⟨Ko t h.1 ha.1,G2 r h.2 ha.2⟩
end
mutual
theorem Kn:∀ t:T,cZ t=true->xa t
 | .mk n l,h=>by
  rw [cZ,Bool.and_eq_true] at h;rw [xa];refine ⟨?_,G1 l h.1⟩;have h2:own n l.length (fun m=>ba m 0 l) (l.all fun x=>fZ x.n.kind)=true:=h.2
  by_cases h0:n.at_ < 0
  ·unfold own at h2;rw [if_pos (by simpa using h0)] at h2;cases h2
  ·omega
theorem G1:∀ l:List T,bK l=true->lO l
 | [],_=>trivial
 | t::r,h=>by
  rw [bK,Bool.and_eq_true] at h;rw [lO];exact ⟨Kn t h.1,G1 r h.2⟩
end
theorem kj (a:E):me a.tree.n.kind=true:=by cases a <;> rfl
mutual
theorem E.fC:∀ a:E,a.ok=true->cZ a.tree=true
 | .num n,h=>by
  simp only [E.ok,Bool.and_eq_true] at h;rw [E.tree,cZ,bK];simp [bG,own,T.n,T.kids];exact h
 | .name s,h=>by
  simp only [E.ok] at h;rw [E.tree,cZ,bK];simp [bG,own,T.n,T.kids,h]
 | .at_ s a,h=>by
  simp only [E.ok,Bool.and_eq_true] at h;have h2:=E.fC a h.2;have h3:=kj a;rw [E.tree,cZ,bK,bK,h2];simp [bG,own,T.n,T.kids,h.1,ba];exact h3
 | .call s l,h=>by
  simp only [E.ok,Bool.and_eq_true] at h;obtain ⟨h2,h3⟩:=E.rA l h.2;rw [E.tree,cZ,h2];have:=h3 (E.trees l).length 0 (by omega);simp [bG,own,T.n,T.kids,h.1,this]
 | .un s a,h=>by
  simp only [E.ok,Bool.and_eq_true] at h;have h2:=E.fC a h.2;have h3:=kj a;rw [E.tree,cZ,bK,bK,h2];simp [bG,own,T.n,T.kids,ba];exact ⟨by simpa using h.1,h3⟩
 | .bin s a b,h=>by
  simp only [E.ok,Bool.and_eq_true] at h;have h2:=E.fC a h.1.2;have h3:=kj a;have h4:=E.fC b h.2;have h5:=kj b;rw [E.tree,cZ,bK,bK,bK,h2,h4];simp [bG,own,T.n,T.kids,ba,h.1.1];exact ⟨h3,h5⟩
theorem E.rA:∀ l:List E,E.cI l=true->bK (E.trees l)=true/\∀ m i,i+(E.trees l).length<=m->ba m i (E.trees l)=true
 | [],_=>⟨rfl,fun m i _=>rfl⟩
 | a::l,h=>by
  simp only [E.cI,Bool.and_eq_true] at h;obtain ⟨h2,h3⟩:=E.rA l h.2;refine ⟨by rw [E.trees,bK,E.fC a h.1,h2];rfl,fun m i hm=>?_⟩;rw [E.trees,length_cons] at hm;rw [E.trees,ba,if_pos (by omega),kj a,h3 m (i+1) (by omega)];rfl
end
theorem TT (a:S):fZ a.tree.n.kind=true:=by cases a <;> rfl
mutual
theorem S.fC:∀ a:S,a.ok=true->cZ a.tree=true
 | .set s a,h=>by
  simp only [S.ok,Bool.and_eq_true] at h;have h2:=E.fC a h.2;have h3:=kj a;rw [S.tree,cZ,bK,bK,h2];simp [bG,own,T.n,T.kids,h.1,ba];exact h3
 | .var s a,h=>by
  simp only [S.ok,Bool.and_eq_true] at h;have h2:=E.fC a h.2;have h3:=kj a;rw [S.tree,cZ,bK,bK,h2];simp [bG,own,T.n,T.kids,h.1,ba];exact h3
 | .ret a,h=>by
  simp only [S.ok] at h;have h2:=E.fC a h;have h3:=kj a;rw [S.tree,cZ,bK,bK,h2];simp [bG,own,T.n,T.kids,ba];exact h3
 | .do_ a,h=>by
  simp only [S.ok] at h;have h2:=E.fC a h;have h3:=kj a;rw [S.tree,cZ,bK,bK,h2];simp [bG,own,T.n,T.kids,ba];exact h3
 | .put s a b,h=>by
  simp only [S.ok,Bool.and_eq_true] at h;have h2:=E.fC a h.2.1;have h3:=kj a;have h4:=E.fC b h.2.2;have h5:=kj b;rw [S.tree,cZ,bK,bK,bK,h2,h4];simp [bG,own,T.n,T.kids,ba,h.1];exact ⟨h3,h5⟩
 | .if1 c b,h=>by
  simp only [S.ok,Bool.and_eq_true] at h;have h2:=E.fC c h.1;have h3:=kj c;have h4:=S.uO b h.2;rw [S.tree,cZ,bK,bK,bK,h2,h4];simp [bG,own,T.n,T.kids,ba];exact h3
 | .if2 c b b2,h=>by
  simp only [S.ok,Bool.and_eq_true] at h;have h2:=E.fC c h.1;have h3:=kj c;have h4:=S.uO b h.2.1;have h5:=S.uO b2 h.2.2;rw [S.tree,cZ,bK,bK,bK,bK,h2,h4,h5];simp [bG,own,T.n,T.kids,ba];exact h3
 | .while_ c b,h=>by
  simp only [S.ok,Bool.and_eq_true] at h;have h2:=E.fC c h.1;have h3:=kj c;have h4:=S.uO b h.2;rw [S.tree,cZ,bK,bK,bK,h2,h4];simp [bG,own,T.n,T.kids,ba];exact h3
theorem S.uO:∀ l:List S,S.cI l=true->cZ (.mk ⟨14,0,0,[],[]⟩ (S.trees l))=true
 | l,h=>by
  obtain ⟨h1,h2⟩:=S.rA l h;have h3:bG (.mk ⟨14,0,0,[],[]⟩ (S.trees l))=own ⟨14,0,0,[],[]⟩ (S.trees l).length (fun m=>ba m 0 (S.trees l)) ((S.trees l).all fun x=>fZ x.n.kind):=rfl;rw [cZ,h1,h3,h2];simp [own]
theorem S.rA:∀ l:List S,S.cI l=true->bK (S.trees l)=true/\(S.trees l).all (fun x=>fZ x.n.kind)=true
 | [],_=>⟨rfl,rfl⟩
 | a::l,h=>by
  simp only [S.cI,Bool.and_eq_true] at h;obtain ⟨h1,h2⟩:=S.rA l h.2;exact ⟨by rw [S.trees,bK,S.fC a h.1,h1];rfl,by rw [S.trees,all_cons,h2,TT a];rfl⟩
end
theorem Vr {n:Nd} {k:Nat} {kd:Nat->Bool} {bl:Bool} (h:own n k kd bl=true):cV n.kind k=true:=by
 have hc:n.kind=1\/n.kind=2\/n.kind=3\/n.kind=4\/n.kind=5\/n.kind=6\/n.kind=7\/n.kind=8\/n.kind=9\/n.kind=10\/n.kind=11\/n.kind=12\/n.kind=13\/n.kind=14\/(n.kind < 1\/14 < n.kind):=by omega
 unfold own at h
 by_cases h0:decide (n.at_ < 0)=true
 ·rw [if_pos h0] at h;cases h
 rw [if_neg h0] at h
 by_cases h1:(n.kind != 1&&n.n != 0)=true
 ·rw [if_pos h1] at h;cases h
 rw [if_neg h1] at h;clear h0 h1
 rcases hc with hk | hk | hk | hk | hk | hk | hk | hk | hk | hk | hk | hk | hk | hk | hk
 all_goals (first | (simp [hk] at h;simp [cV,hk];done) | (simp [hk] at h;simp [cV,hk];omega) | (simp [hk] at h;simp [cV,hk,h];done) | skip)
 ·exfalso
  have e1:(n.kind==1)=false:=by simp;omega
  have e2:(n.kind==2)=false:=by simp;omega
  have e3:(n.kind==3)=false:=by simp;omega
  have e4:(n.kind==4)=false:=by simp;omega
  have e5:(n.kind==5)=false:=by simp;omega
  have e6:(n.kind==6)=false:=by simp;omega
  have e7:(n.kind==7)=false:=by simp;omega
  have e8:(n.kind==8)=false:=by simp;omega
  have e9:(n.kind==9)=false:=by simp;omega
  have VF:(n.kind==10)=false:=by simp;omega
  have XV:(n.kind==11)=false:=by simp;omega
  have XW:(n.kind==12)=false:=by simp;omega
  have XX:(n.kind==13)=false:=by simp;omega
  have XY:(n.kind==14)=false:=by simp;omega
  rw [e1,e2,e3,e4,e5,e6,e7,e8,e9,VF,XV,XW,XX,XY] at h;simp at h
mutual
theorem Ps:∀ t:T,cZ t=true->fQ t=true
 | .mk n l,h=>by
  rw [cZ,Bool.and_eq_true] at h;rw [fQ,Kp l h.1,Bool.and_true];exact Vr h.2
theorem Kp:∀ l:List T,bK l=true->ux l=true
 | [],_=>rfl
 | t::r,h=>by
  rw [bK,Bool.and_eq_true] at h;rw [ux,Ps t h.1,Kp r h.2];rfl
end
theorem Oo (t:T) (z:Int):kZ (er t) z=kZ t z:=by unfold kZ;rw [xh]
theorem RM (n:Nd) (l:List T) (x:List ae):tw ⟨n.kind,0,n.n,n.s,[]⟩ (aE l) x=tw n l x:=by
 unfold tw
 match l with
 | []=>rw [aE]
 | [a]=>rw [aE,aE];simp only [xh]
 | a::b::r=>rw [aE,aE];simp only [xh,Oo]
mutual
theorem MP:∀ t:T,cJ (er t)=cJ t
 | .mk n l=>by rw [er,cJ,cJ,Cr l,RM]
theorem Cr:∀ l:List T,fA (aE l)=fA l
 | []=>by rw [aE]
 | t::r=>by rw [aE,fA,fA,MP t,Cr r]
end
mutual
theorem TY (inl:List ae->Nat->ae):∀ (t:T) (d:Nat),jJ cJ inl d (er t)=jJ cJ inl d t
 | .mk n l,d=>by
  have h:=MP (.mk n l);rw [er] at h |-;rw [jJ,jJ,h,G3 inl l d,Hl]
  have:(aE l).map cJ=l.map cJ:=by rw [<-Ct,<-Ct,Cr]
  rw [this];rfl
theorem G3 (inl:List ae->Nat->ae):∀ (l:List T) (d:Nat),pd cJ inl d (aE l)=pd cJ inl d l
 | [],d=>by rw [aE]
 | t::r,d=>by rw [aE,pd,pd,Ku inl t d,G3 inl r d]
theorem Ku (inl:List ae->Nat->ae):∀ (t:T) (d:Nat),mG cJ inl d (er t)=mG cJ inl d t
 | .mk n l,d=>by rw [er,mG,mG,Ii inl l (d+1)]
theorem Ii (inl:List ae->Nat->ae):∀ (l:List T) (d:Nat),wW cJ inl d (aE l)=wW cJ inl d l
 | [],d=>by rw [aE]
 | t::r,d=>by rw [aE,wW,wW,TY inl t d,Ii inl r d]
end
theorem Mh {s:ae} (h:ep s=true):rq s=(dJ s:Int):=by
 unfold rq dJ
 cases hf:levels.findIdx? (fun l=>l.contains s) with
 | some i=>rfl
 | none =>
  rw [List.findIdx?_eq_none_iff] at hf;unfold ep at h;rw [any_eq_true] at h;obtain ⟨l,h1,h2⟩:=h;have:=hf l h1;rw [h2] at this;cases this
theorem HT {a:E} (h:a.ok=true) (k:Nat) (hk:k<=9):kZ a.tree (k:Int)=decide (a.lv < k):=by
 have key:∀ b:Bool,(false&&b)=decide (9 < k):=fun b=>by rw [Bool.false_and,decide_eq_false (by omega)]
 cases a with
 | bin s x y =>
  simp only [E.ok,Bool.and_eq_true] at h;show (true&&decide (rq s < (k:Int)))=decide (dJ s < k);rw [Mh h.1.1,Bool.true_and];exact decide_eq_decide.2 (by omega)
 | num n=>exact key _
 | name n=>exact key _
 | at_ s a=>exact key _
 | call s l=>exact key _
 | un s a=>exact key _
theorem BH (lv k:Nat) (x:ae):tI (decide (lv < k)) x=pX lv k x:=by
 unfold tI pX
 by_cases h:lv < k
 ·rw [if_pos (by simpa using h),if_pos h]
 ·rw [if_neg (by simpa using h),if_neg h]
theorem R4 {a:E} (h:a.ok=true):(a.tree.n.kind==6)=decide (a.lv < 9):=by
 cases a with
 | bin s x y =>
  simp only [E.ok,Bool.and_eq_true] at h;have:=(oU h.1.1).1;show true=decide (dJ s < 9);exact (decide_eq_true this).symm
 | _=>rfl
mutual
theorem iX:∀ a:E,a.ok=true->cJ a.tree=a.txt
 | .num n,h=>by
  simp only [E.ok,Bool.and_eq_true,decide_eq_true_eq] at h;rw [E.tree,cJ,E.txt];unfold tw nK;simp only [if_true];rw [if_neg (by omega)]
 | .name s,h=>by
  rw [E.tree,cJ,E.txt];simp [tw]
 | .at_ s a,h=>by
  simp only [E.ok,Bool.and_eq_true] at h;have h2:=iX a h.2;rw [E.tree,cJ,fA,fA,h2,E.txt];simp [tw]
 | .call s l,h=>by
  simp only [E.ok,Bool.and_eq_true] at h;rw [E.tree,cJ,Is l h.2,E.txt];simp [tw]
 | .un s a,h=>by
  simp only [E.ok,Bool.and_eq_true] at h;have h2:=iX a h.2;rw [E.tree,cJ,fA,fA,h2,E.txt,<-BH,<-R4 h.2];simp [tw]
 | .bin s a b,h=>by
  simp only [E.ok,Bool.and_eq_true] at h;have h2:=iX a h.1.2;have h3:=iX b h.2;have hl:=(oU h.1.1).1;have e1:=HT h.1.2 (dJ s) (by omega);have e2:=HT h.2 (dJ s+1) (by omega);rw [E.tree,cJ,fA,fA,fA,h2,h3,E.txt,<-BH,<-BH,<-e1,<-e2];unfold tw;simp only [Mh h.1.1];simp
theorem Is:∀ l:List E,E.cI l=true->fA (E.trees l)=E.cE l
 | [],_=>rfl
 | a::l,h=>by
  simp only [E.cI,Bool.and_eq_true] at h;rw [E.trees,fA,E.cE,iX a h.1,Is l h.2]
end
theorem CF (x:E->ae):∀ (l:List S) (acc:ae),rE acc (l.map (S.txt x))=S.cE x acc l
 | [],acc=>by rw [S.cE];rfl
 | a::l,acc=>by
  rw [S.cE,<-CF x l];simp [rE,append_assoc]
mutual
theorem RC:∀ (s:S),s.ok=true->∀ d,jJ cJ fu d s.tree=s.txt E.txt
 | .set s a,h,d=>by
  simp only [S.ok,Bool.and_eq_true] at h;rw [S.tree,jJ,List.map_cons,iX a h.2,S.txt];simp [wX]
 | .var s a,h,d=>by
  simp only [S.ok,Bool.and_eq_true] at h;rw [S.tree,jJ,List.map_cons,iX a h.2,S.txt];simp [wX]
 | .ret a,h,d=>by
  simp only [S.ok] at h;rw [S.tree,jJ,List.map_cons,iX a h,S.txt];simp [wX]
 | .do_ a,h,d=>by
  simp only [S.ok] at h;rw [S.tree,jJ,List.map_cons,iX a h,S.txt];simp [wX]
 | .put s a b,h,d=>by
  simp only [S.ok,Bool.and_eq_true] at h;rw [S.tree,jJ,List.map_cons,List.map_cons,iX a h.2.1,iX b h.2.2,S.txt];simp [wX]
 | .if1 c b,h,d=>by
  simp only [S.ok,Bool.and_eq_true] at h;have hb:=uN b h.2 d;rw [S.tree,jJ,List.map_cons,iX c h.1,pd,pd,pd,hb,S.txt];simp [wX,eQ]
 | .if2 c b b2,h,d=>by
  simp only [S.ok,Bool.and_eq_true] at h;have hb:=uN b h.2.1 d;have eG:=uN b2 h.2.2 d;rw [S.tree,jJ,List.map_cons,iX c h.1,pd,pd,pd,pd,hb,eG,S.txt];simp [wX,eQ]
 | .while_ c b,h,d=>by
  simp only [S.ok,Bool.and_eq_true] at h;have hb:=uN b h.2 d;rw [S.tree,jJ,List.map_cons,iX c h.1,pd,pd,pd,hb,S.txt];simp [wX,eQ]
theorem uN:∀ (l:List S),S.cI l=true->∀ d,mG cJ fu d (.mk ⟨14,0,0,[],[]⟩ (S.trees l))=eQ E.txt l
 | l,h,d=>by
  rw [mG,Ik l h (d+1),fu,CF];rfl
theorem Ik:∀ (l:List S),S.cI l=true->∀ d,wW cJ fu d (S.trees l)=l.map (S.txt E.txt)
 | [],_,d=>by rw [S.trees,wW];rfl
 | a::l,h,d=>by
  simp only [S.cI,Bool.and_eq_true] at h;rw [S.trees,wW,List.map_cons,RC a h.1,Ik l h.2]
end
theorem qj {α:Type} {p:α->α->Bool} (h:∀ x,p x x=true):∀ l:List α,eZ p l l=true
 | []=>rfl
 | a::l=>by rw [eZ,h a,qj h l];rfl
theorem yh {α:Type} [BEq α] [LawfulBEq α]:∀ {a b:List α},eZ (fun x y=>x==y) a b=true->a=b
 | [],[],_=>rfl
 | a::r,b::s,h=>by rw [eZ,Bool.and_eq_true,beq_iff_eq] at h;rw [h.1,yh h.2]
 | [],b::s,h=>by cases h
 | a::r,[],h=>by cases h
theorem Hi {α:Type} {p:α->α->Bool}:∀ {a b:List α} {c d:List α},a.length=b.length->eZ p (a++c) (b++d)=(eZ p a b&&eZ p c d)
 | [],[],c,d,_=>rfl
 | a::r,b::s,c,d,h=>by rw [cons_append,cons_append,eZ,eZ,Hi (by simpa using h),Bool.and_assoc]
 | [],b::s,_,_,h=>by simp at h
 | a::r,[],_,_,h=>by simp at h
theorem wc:∀ (l:List T) (a:Nat),bL a (aE l)=bL a l
 | [],a=>by rw [aE]
 | t::r,a=>by rw [aE,bL,bL,vD,wc r]
mutual
theorem QO:∀ (t u:T) (a:Nat),er t=er u->eZ kz (lG a t) (lG a u)=true
 | .mk n l,.mk m k,a,h=>by
  rw [er,er] at h
  injection h with h1 h2
  injection h1 with h3 h4 h5 h6 h7
  rw [lG,lG,eZ,BQ l k (a+1) h2,Bool.and_true,<-wc l,<-wc k,h2];simp only [kz,h3,h5,h6];simp [qj]
theorem BQ:∀ (l k:List T) (a:Nat),aE l=aE k->eZ kz (dX a l) (dX a k)=true
 | [],[],a,_=>by rw [dX];rfl
 | t::r,u::s,a,h=>by
  rw [aE,aE] at h
  injection h with h1 h2
  have hz:aB t=aB u:=by rw [<-vD t,h1,vD u]
  rw [dX,dX,Hi (by rw [Hp,Hp,hz]),QO t u a h1,<-hz,BQ r s _ h2];rfl
 | [],u::s,a,h=>by rw [aE,aE] at h;cases h
 | t::r,[],a,h=>by rw [aE,aE] at h;cases h
end
mutual
theorem Ry:∀ (t u:T) (a:Nat) (x y:List Nd),eZ kz (lG a t++x) (lG a u++y)=true->er t=er u/\eZ kz x y=true
 | .mk n l,.mk m k,a,x,y,h=>by
  rw [lG,lG,cons_append,cons_append,eZ,Bool.and_eq_true] at h;obtain ⟨h1,h2⟩:=h;simp only [kz,Bool.and_eq_true,beq_iff_eq] at h1;obtain ⟨⟨⟨h3,h4⟩,h5⟩,h6⟩:=h1;have h7:=congrArg List.length (yh h6);rw [cQ,cQ] at h7;obtain ⟨h8,h9⟩:=Co l k (a+1) x y h7 h2;exact ⟨by rw [er,er,h3,h4,h5,h8],h9⟩
theorem Co:∀ (l k:List T) (a:Nat) (x y:List Nd),l.length=k.length->eZ kz (dX a l++x) (dX a k++y)=true->aE l=aE k/\eZ kz x y=true
 | [],[],a,x,y,_,h=>by rw [dX,nil_append,nil_append] at h;exact ⟨rfl,h⟩
 | t::r,u::s,a,x,y,hl,h=>by
  rw [dX,dX,append_assoc,append_assoc] at h;obtain ⟨h1,h2⟩:=Ry t u a _ _ h
  have hz:aB t=aB u:=by rw [<-vD t,h1,vD u]
  rw [<-hz] at h2;obtain ⟨h3,h4⟩:=Co r s _ x y (by simpa using hl) h2;exact ⟨by rw [aE,aE,h1,h3],h4⟩
 | [],u::s,a,x,y,hl,h=>by simp at hl
 | t::r,[],a,x,y,hl,h=>by simp at hl
end
theorem Rw {l k:List T} (hl:l.length=k.length) (h:eZ kz (dX 0 l) (dX 0 k)=true):aE l=aE k:=by
 have:=Co l k 0 [] [] hl (by rw [append_nil,append_nil];exact h);exact this.1
end Go.Im
namespace Go.Im
open Go.Xp Go.Sp
structure PS where
 trees:List T
 globals:List ae
 arrays:List Ar
 fns:List (ae × List ae)
def PS.empty:PS:=⟨[],[],[],[]⟩
def oq:Nat->List ae->RS->Option (List ae × RS)
 | 0,_,_=>none
 | f+1,acc,p =>
  if p.code=0/\is p 0 [41]=false then oq f (acc++[(tok (if acc.length=0 then p else want p [44]) 0).s]) (bd (if acc.length=0 then p else want p [44]))
  else some (acc,want p [41])
def iW (f:Nat) (p:RS) (st:PS):Option (RS × PS) :=
 if is p 0 kY=true then
  if (bd p.next).code=0/\is (bd p.next) 0 [91]=true then
   if (tok (bd p.next).next 0).kind=1 then
    some (want (want (bd p.next).next.next [93]) [59],{ st with arrays:=st.arrays++[⟨(tok p.next 0).s,(tok (bd p.next).next 0).n⟩] })
   else some (jP (bd p.next).next,st)
  else some (want (bd p.next) [59],{ st with globals:=st.globals++[(tok p.next 0).s] })
 else if is p 0 mg=true then
  match oq f [] (want (bd p.next) [40]) with
  | none=>none
  | some (l,q) =>
   if q.code=0 then match iS f (.block 1) q with
    | none=>none
    | some (t,q)=>some (q,{ st with trees:=st.trees++[t],fns:=st.fns++[((tok p.next 0).s,l)] })
   else some (q,st)
 else some (jP p,st)
def mM:Nat->Nat->RS->PS->Option (RS × PS)
 | 0,_,_,_=>none
 | g+1,f,p,st =>
  if p.code=0/\p.i < p.l.length then match iW f p st with
   | none=>none
   | some (p,st)=>mM g f p st
  else some (p,st)
theorem LV:∀ (f:Nat) (acc:List ae) (p:RS) (l:List ae) (q:RS),p.ok->oq f acc p=some (l,q)->p.to q
 | 0,_,_,_,_,_,h=>by cases h
 | f+1,acc,p,l,q,hp,h=>by
  rw [oq] at h;split at h
  ·have h1:p.to (if acc.length=0 then p else want p [44]):=by split;exact jz hp;exact bT hp _
   have h2:=gK (h1.ok hp);have h3:=LV f _ _ l q ((h1.trans h2).ok hp) h;exact (h1.trans h2).trans h3
  ·cases h;exact bT hp _
theorem UY {f:Nat} {p q:RS} {st dN:PS} (hp:p.ok) (h:iW f p st=some (q,dN)):p.to q:=by
 unfold iW at h;split at h
 ·rename_i hi;have h1:=jo hi;have h2:=h1.trans (gK (h1.ok hp));split at h
  ·rename_i hb;have h3:=h2.trans (jo hb.2);split at h
   ·rename_i hk
    have ln:(tok (bd p.next).next 0).kind≠0:=by rw [hk];decide
    have h4:=h3.trans (dv (by have:=rz ln;exact this));have h5:=h4.trans (bT (h4.ok hp) [93])
    cases h;exact h5.trans (bT (h5.ok hp) _)
   ·cases h;exact h3.trans (wH (h3.ok hp))
  ·cases h;exact h2.trans (bT (h2.ok hp) _)
 ·split at h
  ·rename_i hi;have h1:=jo hi;have h2:=h1.trans (gK (h1.ok hp));have h3:=h2.trans (bT (h2.ok hp) [40])
   cases hm:oq f [] (want (bd p.next) [40]) with
   | none=>rw [hm] at h;cases h
   | some r =>
    obtain ⟨l,q1⟩:=r;rw [hm] at h;simp only at h;have h4:=h3.trans (LV _ _ _ _ _ (h3.ok hp) hm);split at h
    ·cases hb:iS f (.block 1) q1 with
     | none=>rw [hb] at h;cases h
     | some r =>
      obtain ⟨t,q2⟩:=r;rw [hb] at h;cases h;exact h4.trans ((DE f).1 _ _ _ _ (h4.ok hp) hb)
    ·cases h;exact h4
  ·cases h;exact wH hp
structure PS.le (a:PS) (n:Nat):Prop where
 trees:a.trees.length<=n
 globals:a.globals.length<=n
 arrays:a.arrays.length<=n
 fns:a.fns.length=a.trees.length
theorem UW {f n:Nat} {p q:RS} {st dN:PS} (h:iW f p st=some (q,dN)) (hs:st.le n):dN.le (n+1):=by
 obtain ⟨a,b,c,d⟩:=hs;have key:st.le (n+1):=⟨by omega,by omega,by omega,d⟩;unfold iW at h;split at h
 ·split at h
  ·split at h
   ·cases h;exact ⟨by simp;omega,by simp;omega,by simp;omega,by simp;omega⟩
   ·cases h;exact key
  ·cases h;exact ⟨by simp;omega,by simp;omega,by simp;omega,by simp;omega⟩
 ·split at h
  ·split at h
   ·cases h
   ·split at h
    ·split at h
     ·cases h
     ·cases h;exact ⟨by simp;omega,by simp;omega,by simp;omega,by simp;omega⟩
    ·cases h;exact key
  ·cases h;exact key
end Go.Im
namespace Go.Sp
open Go.Xp
inductive Tz (s:ae):Nat->List Tok->Nat->Prop
 | nil (a:Nat):Tz s a [] a
 | blank {a b:Nat} {c:UInt8} {ts:List Tok} (hc:s[a]?=some c) (hb:dA c=true) (h:Tz s (a+1) ts b):Tz s a ts b
 | tok {a a' b:Nat} {c:UInt8} {t:Tok} {ts:List Tok} (hc:s[a]?=some c) (hb:dA c=false) (hr:bo s a [47,42]=false) (ht:iI s a c=(t,a')) (hk:t.kind=1\/t.kind=2\/t.kind=3) (hn:t.n<=2147483647) (ha:a < a') (h:Tz s a' ts b):Tz s a (t::ts) b
theorem Tz.app {s:ae} {a b c:Nat} {ts us:List Tok} (h:Tz s a ts b) (k:Tz s b us c):Tz s a (ts++us) c:=by
 induction h with
 | nil a=>exact k
 | blank hc hb h ih=>exact .blank hc hb (ih k)
 | tok hc hb hr ht hk hn ha h ih=>exact .tok hc hb hr ht hk hn ha (ih k)
theorem Tz.kinds {s:ae} {a b:Nat} {ts:List Tok} (h:Tz s a ts b):∀ t∈ts,t.kind=1\/t.kind=2\/t.kind=3:=by
 induction h with
 | nil a=>intro t h;cases h
 | blank hc hb h ih=>exact ih
 | tok hc hb hr ht hk hn ha h ih =>
  intro t h
  rcases List.mem_cons.1 h with rfl | h
  ·exact hk
  ·exact ih t h
theorem Tz.len {s:ae} {a b:Nat} {ts:List Tok} (h:Tz s a ts b):a+ts.length<=b:=by
 induction h with
 | nil a=>simp
 | blank hc hb h ih=>omega
 | tok hc hb hr ht hk hn ha h ih=>simp only [length_cons];omega
theorem ME (s:ae):∀ (f f' a:Nat),a<=s.length->s.length < f+a->s.length < f'+a->skip s f a=skip s f' a:=by
 intro f
 induction f with
 | zero=>intro f' a h1 h2;omega
 | succ f ih =>
  intro f' a h1 h2 h3;obtain ⟨f',rfl⟩:∃ g,f'=g+1:=⟨f' - 1,by omega⟩;rw [skip,skip]
  cases hc:s[a]? with
  | none=>rfl
  | some c =>
   simp only;have ao:=(List.getElem?_eq_some_iff.1 hc).1;split
   ·exact ih f' (a+1) (by omega) (by omega) (by omega)
   ·split
    ·rename_i hb;have hb:=jk hb;have hb:a+2<=s.length:=hb;have h4:=rO s s.length (a+2) hb;have h5:=qJ s s.length (a+2) hb (by omega);split
     ·rfl
     ·rename_i hn
      have h6:bo s (eK s s.length (a+2)) [42,47]=true:=by
       cases oP:bo s (eK s s.length (a+2)) [42,47] with
       | true=>rfl
       | false=>exact absurd ⟨by omega,oP⟩ h5
      have h6:=jk h6;have h6:eK s s.length (a+2)+2<=s.length:=h6;exact ih f' _ (by omega) (by omega) (by omega)
    ·rfl
theorem Tz.iv {s:ae} {a b:Nat} {ts:List Tok} (h:Tz s a ts b):∀ (f:Nat) (acc:List Tok),pV s (f+ts.length) (skip s (s.length+1) a).1 acc=pV s f (skip s (s.length+1) b).1 (acc++ts):=by
 induction h with
 | nil a=>intro f acc;simp
 | blank hc hb h ih =>
  rename_i a b c ts;intro f acc;have ao:=(List.getElem?_eq_some_iff.1 hc).1;rw [<-ih f acc]
  have:skip s (s.length+1) a=skip s (s.length+1) (a+1):=by
   rw [skip,hc];simp only;rw [if_pos hb];exact ME s _ _ _ (by omega) (by omega) (by omega)
  rw [this]
 | tok hc hb hr ht hk hn ha h ih =>
  rename_i a a' b c t ts;intro f acc
  have:skip s (s.length+1) a=(a,-1):=by
   rw [skip,hc];simp only;rw [if_neg (by rw [hb];decide),if_neg (by rw [hr];decide)]
  rw [this,length_cons,<-Nat.add_assoc,pV,hc];simp only [ht];rw [ih f (acc++[t]),append_assoc];rfl
theorem Tz.all {s:ae} {ts:List Tok} (h:Tz s 0 ts s.length):Go.Sp.iv s=some ts:=by
 have h1:=h.len;have h2:=h.iv (s.length+2 - ts.length) [];unfold Go.Sp.iv;rw [show s.length+2 - ts.length+ts.length=s.length+2 by omega] at h2;rw [h2]
 have h3:skip s (s.length+1) s.length=(s.length,-1):=by rw [skip];simp
 rw [h3];obtain ⟨g,hg⟩:∃ g,s.length+2 - ts.length=g+1:=⟨s.length+1 - ts.length,by omega⟩;rw [hg,pV];simp
theorem ml {s r:ae} {a:Nat} {c:UInt8} (h:s.drop a=c::r):s[a]?=some c/\s.drop (a+1)=r/\a < s.length:=by
 have h1:s[a]?=some c:=by
  have:=List.getElem?_drop (xs:=s) (i:=a) (j:=0);rw [h] at this;simpa using this.symm
 refine ⟨h1,?_,(List.getElem?_eq_some_iff.1 h1).1⟩;rw [<-List.tail_drop,h];rfl
theorem Rs (s:ae) (p:UInt8->Bool):∀ (w post:ae) (f a:Nat),s.drop a=w++post->(∀ c∈w,p c=true)->run s p (f+w.length) a=run s p f (a+w.length):=by
 intro w
 induction w with
 | nil=>intro post f a h hp;rfl
 | cons c w ih =>
  intro post f a h hp;obtain ⟨h1,h2,_⟩:=ml h;rw [length_cons,<-Nat.add_assoc,run,h1];simp only;rw [if_pos (hp c (mem_cons_self)),ih post f (a+1) h2 (fun c hc=>hp c (mem_cons_of_mem _ hc))]
  congr 1;omega
theorem OH (s:ae) (p:UInt8->Bool) (post:ae) (f a:Nat) (h:s.drop a=post) (hp:∀ c,post.head?=some c->p c=false):run s p f a=a:=by
 cases f with
 | zero=>rfl
 | succ f =>
  rw [run]
  cases post with
  | nil =>
   have:s[a]?=none:=by
    rw [List.getElem?_eq_none_iff];have:=congrArg List.length h;simp at this;omega
   rw [this]
  | cons c r =>
   obtain ⟨h1,_,_⟩:=ml h;rw [h1];simp only;rw [if_neg (by rw [hp c rfl];decide)]
theorem take_drop {s w post:ae} {a:Nat} (h:s.drop a=w++post):(s.take (a+w.length)).drop a=w:=by
 rw [List.drop_take,h,Nat.add_sub_cancel_left,List.take_left]
theorem EZ {s w post:ae} {a:Nat} (h:s.drop a=w++post) (ha:a<=s.length):a+w.length+post.length=s.length:=by
 have:=congrArg List.length h;simp only [length_drop,length_append] at this;omega
theorem Ph {s w post:ae} {a:Nat} {c:UInt8} {r:ae} (ha:a<=s.length) (h:s.drop a=w++post) (hw:w=c::r) (hs:small c=true) (aK:∀ c∈w,dK c=true) (hp:∀ c,post.head?=some c->dK c=false) :
  iI s a c=(⟨if words.contains w=true then 3 else 2,0,w,a⟩,a+w.length):=by
 have hl:=EZ h ha
 have he:et s a=a+w.length:=by
  unfold et;obtain ⟨g,hg⟩:∃ g,s.length+1=g+w.length:=⟨s.length+1 - w.length,by omega⟩;rw [hg,Rs s dK w post g a h aK];refine OH s dK post g _ ?_ hp;rw [<-List.drop_drop,h,drop_left]
 have hd:dP c=false:=by
  simp only [small,dP,Bool.and_eq_true] at hs |-;have h1:=of_decide_eq_true hs.1
  have:¬ ((c.toNat:Int)<=57):=by omega
  simp [this]
 unfold iI;rw [if_neg (by rw [hd];decide),if_pos hs];unfold eV;rw [he,take_drop h]
def fold (n:Int) (w:ae):Int:=w.foldl (fun n c=>if n<=2147483647 then n * 10+((c.toNat:Int) - 48) else n) n
theorem JJ (s:ae):∀ (w post:ae) (f:Nat) (n:Int) (a:Nat),s.drop a=w++post->(∀ c∈w,dP c=true)->number s (f+w.length) n a=number s f (fold n w) (a+w.length):=by
 intro w
 induction w with
 | nil=>intro post f n a h hp;rfl
 | cons c w ih =>
  intro post f n a h hp;obtain ⟨h1,h2,_⟩:=ml h;rw [length_cons,<-Nat.add_assoc,number,h1];simp only;rw [if_pos (hp c (mem_cons_self)),ih post f _ (a+1) h2 (fun c hc=>hp c (mem_cons_of_mem _ hc))];rw [show a+1+w.length=a+(w.length+1) by omega];rfl
theorem GG (s:ae) (post:ae) (f:Nat) (n:Int) (a:Nat) (h:s.drop a=post) (hp:∀ c,post.head?=some c->dP c=false):number s f n a=(n,a):=by
 cases f with
 | zero=>rfl
 | succ f =>
  rw [number]
  cases post with
  | nil =>
   have:s[a]?=none:=by
    rw [List.getElem?_eq_none_iff];have:=congrArg List.length h;simp at this;omega
   rw [this]
  | cons c r =>
   obtain ⟨h1,_,_⟩:=ml h;rw [h1];simp only;rw [if_neg (by rw [hp c rfl];decide)]
theorem KJ (k:Nat) (h:k<=9):dP (UInt8.ofNat (48+k))=true/\((UInt8.ofNat (48+k)).toNat:Int)=48+k:=by
 have:(UInt8.ofNat (48+k)).toNat=48+k:=by simp;omega
 refine ⟨?_,by rw [this];omega⟩;simp only [dP,Bool.and_eq_true,this];exact ⟨decide_eq_true (by omega),decide_eq_true (by omega)⟩
theorem Hc (n:Nat):(∀ c∈cn n,dP c=true)/\(n<=2147483647->fold 0 (cn n)=n)/\cn n≠[]:=by
 induction n using Nat.strongRecOn with
 | _ n ih =>
 unfold cn
 by_cases h:n < 10
 ·rw [dif_pos h];obtain ⟨h1,h2⟩:=KJ n (by omega);refine ⟨fun c hc=>by rw [mem_singleton] at hc;subst hc;exact h1,fun _=>?_,by simp⟩;simp only [fold,foldl_cons,List.foldl_nil];rw [if_pos (by omega),h2];omega
 ·rw [dif_neg h];obtain ⟨h1,h2,h3⟩:=ih (n / 10) (by omega);obtain ⟨h4,h5⟩:=KJ (n % 10) (by omega);refine ⟨fun c hc=>?_,fun hn=>?_,by simp⟩
  ·rcases List.mem_append.1 hc with hc | hc
   ·exact h1 c hc
   ·rw [mem_singleton] at hc;subst hc;exact h4
  ·have:=h2 (by omega);unfold fold at this |-;rw [List.foldl_append,this];simp only [foldl_cons,List.foldl_nil];rw [if_pos (by omega),h5];omega
theorem Re {s post:ae} {n a:Nat} {c:UInt8} {r:ae} (ha:a<=s.length) (h:s.drop a=cn n++post) (hw:cn n=c::r) (hn:n<=2147483647) (hp:∀ c,post.head?=some c->dP c=false) :
  iI s a c=(⟨1,n,[],a⟩,a+(cn n).length):=by
 obtain ⟨h1,h2,h3⟩:=Hc n;have hl:=EZ h ha;have hd:dP c=true:=h1 c (by rw [hw];exact mem_cons_self);obtain ⟨g,hg⟩:∃ g,s.length+1=g+(cn n).length:=⟨s.length+1 - (cn n).length,by omega⟩;unfold iI;rw [if_pos hd,hg,JJ s (cn n) post g 0 a h h1,h2 hn,GG s post g _ _ (by rw [<-List.drop_drop,h,drop_left]) hp]
theorem uk {s r t:ae} {a:Nat} (h:s.drop a=r) (ha:a<=s.length):bo s a t=t.isPrefixOf r:=by
 have hl:a+r.length=s.length:=by have:=congrArg List.length h;simp at this;omega
 unfold bo;rw [List.drop_take,h,Nat.add_sub_cancel_left]
 by_cases hp:t <+: r
 ·obtain ⟨z,rfl⟩:=hp;simp only [length_append] at hl
  have h2:t.isPrefixOf (t++z)=true:=by rw [List.isPrefixOf_iff_prefix];exact ⟨z,rfl⟩
  rw [h2,List.take_left];simp only [Bool.and_eq_true,beq_self_eq_true,and_true,decide_eq_true_eq];omega
 ·have h1:t.isPrefixOf r=false:=by
   cases hh:t.isPrefixOf r with
   | false=>rfl
   | true=>exact absurd (List.isPrefixOf_iff_prefix.1 hh) hp
  rw [h1]
  have h2:(r.take t.length==t)=false:=by
   rw [beq_eq_false_iff_ne];intro h3;exact hp ⟨r.drop t.length,by have:=take_append_drop t.length r;rw [h3] at this;exact this⟩
  rw [h2,Bool.and_false]
def Cm:List UInt8:=[32,40,41,91,93,44,59,123,125,10]
def Sep (post:ae):Prop:=∀ c,post.head?=some c->c∈Cm
theorem Sep.dK {post:ae} (h:Sep post):∀ c,post.head?=some c->dK c=false:=by
 intro c hc
 have:∀ c∈Cm,Go.Sp.dK c=false:=by decide
 exact this c (h c hc)
theorem Sep.dP {post:ae} (h:Sep post):∀ c,post.head?=some c->dP c=false:=by
 intro c hc
 have:∀ c∈Cm,Go.Sp.dP c=false:=by decide
 exact this c (h c hc)
theorem Rl {x y z:ae} (h:x.length<=y.length):x.isPrefixOf (y++z)=x.isPrefixOf y:=by
 induction x generalizing y with
 | nil=>simp
 | cons a x ih =>
  cases y with
  | nil=>simp at h
  | cons b y=>simp only [cons_append,List.isPrefixOf];rw [ih (by simpa using h)]
theorem find_congr {α:Type} {p q:α->Bool}:∀ {l:List α},(∀ x∈l,p x=q x)->l.find? p=l.find? q
 | [],_=>rfl
 | a::l,h=>by rw [List.find?_cons,List.find?_cons,h a (mem_cons_self),find_congr (fun x hx=>h x (mem_cons_of_mem _ hx))]
theorem ON {s w post:ae} {a:Nat} {c:UInt8} {r:ae} (ha:a<=s.length) (h:s.drop a=w++post) (hw:w=c::r) (hm:w∈bD) (hp:Sep post) :
  iI s a c=(⟨3,0,w,a⟩,a+w.length)/\dA c=false/\bo s a [47,42]=false:=by
 have hd:∀ w∈bD,∀ c,w.head?=some c->dP c=false/\small c=false/\dA c=false:=by
  have:∀ w∈bD,(match w.head? with | some c=>!dP c&&!small c&&!dA c | none=>true)=true:=by decide
  intro w hw c hc;have:=this w hw;rw [hc] at this;simp only [Bool.and_eq_true,Bool.not_eq_true'] at this;exact ⟨this.1.1,this.1.2,this.2⟩
 obtain ⟨h1,h2,h3⟩:=hd w hm c (by rw [hw];rfl)
 have Jg:∀ w∈bD,w.length<=2/\1<=w.length:=by decide
 have key:∀ w∈bD,bD.find? (fun x=>x.isPrefixOf w)=some w/\[47,42].isPrefixOf w=false:=by decide
 have Xv:∀ w∈bD,∀ c∈Cm,bD.find? (fun x=>x.isPrefixOf (w++[c]))=some w/\[47,42].isPrefixOf (w++[c])=false:=by decide
 have hf:bD.find? (bo s a)=some w/\bo s a [47,42]=false:=by
  have e1:∀ x,bo s a x=x.isPrefixOf (w++post):=fun x=>uk h ha
  have e2:bD.find? (bo s a)=bD.find? (fun x=>x.isPrefixOf (w++post)):=find_congr fun x _=>e1 x
  rw [e2,e1]
  cases post with
  | nil=>rw [append_nil];exact key w hm
  | cons c' post =>
   have dp:=hp c' rfl
   have e3:∀ x:ae,x.length<=2->x.isPrefixOf (w++c'::post)=x.isPrefixOf (w++[c']):=fun x hx=>by
    rw [show w++c'::post=(w++[c'])++post by simp];exact Rl (by rw [length_append];have:=(Jg w hm).2;simp;omega)
   rw [find_congr fun x hx=>e3 x (Jg x hx).1,e3 _ (by decide)];exact Xv w hm c' dp
 refine ⟨?_,h3,hf.2⟩;unfold iI;rw [if_neg (by rw [h1];decide),if_neg (by rw [h2];decide),hf.1]
theorem NO {s post:ae} {a:Nat} {c:UInt8} (ha:a<=s.length) (h:s.drop a=c::post) (hm:c∈[40,41,91,93,44,59,123,125]) :
  iI s a c=(⟨3,0,[c],a⟩,a+1)/\dA c=false/\bo s a [47,42]=false:=by
 have hd:∀ c∈([40,41,91,93,44,59,123,125]:List UInt8),dP c=false/\small c=false/\dA c=false/\c≠47:=by decide
 obtain ⟨h1,h2,h3,h4⟩:=hd c hm
 have e1:∀ x,bo s a x=x.isPrefixOf (c::post):=fun x=>uk h ha
 have e2:bD.find? (bo s a)=bD.find? (fun x=>x.isPrefixOf (c::post)):=find_congr fun x _=>e1 x
 have key:∀ post:ae,∀ c∈([40,41,91,93,44,59,123,125]:List UInt8),bD.find? (fun x=>x.isPrefixOf (c::post))=some [c]:=by
  intro post c hc;simp only [List.mem_cons,List.not_mem_nil,or_false] at hc
  rcases hc with rfl | rfl | rfl | rfl | rfl | rfl | rfl | rfl <;> rfl
 refine ⟨?_,h3,?_⟩
 ·unfold iI;rw [if_neg (by rw [h1];decide),if_neg (by rw [h2];decide),e2,key post c hm];rfl
 ·rw [e1];simp only [List.isPrefixOf]
  have:((47:UInt8)==c)=false:=by rw [beq_eq_false_iff_ne];exact fun h=>h4 h.symm
  rw [this,Bool.false_and]
end Go.Sp
namespace Go.Im
open Go.Xp Go.Sp
def lz:List ae:=[[105,110,116],[118,97,114],[102,117,110,99],[105,102],[101,108,115,101],[119,104,105,108,101],[114,101,116,117,114,110],[124,124],[38,38],[61,61],[33,61],[60,61],[62,61],[60,60],[62,62],[40],[41],[123],[125],[91],[93],[44],[59],[61],[60],[62],[43],[45],[42],[47],[37],[38],[124],[94],[33],[126]]
theorem xX:lz=words++bD:=by decide
def jD (s:ae):Bool:=lz.contains s
def jH:ae->Int->Int
 | [],n=>n
 | c::r,n=>if n<=2147483647 then jH r (10 * n+((c.toNat:Int) - 48)) else n
def cm (s:ae) (a b:Nat):ae:=(s.take b).drop a
def gk (s:ae) (a:Nat) (k:Nat):Bool:=decide (a+k<=s.length)&&(match s[a]? with | some c=>!(small c) | none=>false)&&jD (cm s a (a+k))
def fJ (s:ae) (a:Nat):ae:=if gk s a 2=true then cm s a (a+2) else if gk s a 1=true then cm s a (a+1) else []
def jA (s:ae) (a:Nat):Nat:=run s dP (s.length+1) a
def pS:Tok:=⟨0,0,[],0⟩
def jY (s:ae) (a:Nat) (c:UInt8):Tok × Nat × Int :=
 if dP c=true then
  if jH (cm s a (jA s a)) 0 > 2147483647 then (pS,a,3) else (⟨1,jH (cm s a (jA s a)) 0,[],a⟩,jA s a,0)
 else if small c=true then (⟨if jD (eV s a)=true then 3 else 2,0,eV s a,a⟩,et s a,0)
 else if fJ s a=[] then (pS,a,2)
 else (⟨3,0,fJ s a,a⟩,a+(fJ s a).length,0)
def pC:ae->Option Nat
 | []=>none
 | b::l=>if List.isPrefixOf [42,47] (b::l) then some 0 else match pC l with | none=>none | some n=>some (n+1)
def mC (s:ae):Nat->Nat->List Tok->Option (List Tok × Int × Int)
 | 0,_,_=>none
 | f+1,a,acc=>match s[a]? with
  | none=>some (acc,0,0)
  | some c =>
   if dA c=true then mC s f (a+1) acc
   else if bo s a [47,42]=true then
    match pC (s.drop (a+2)) with
    | none=>some ([],4,a)
    | some n=>mC s f (a+(n+4)) acc
   else if (jY s a c).2.2≠0 then some ([],(jY s a c).2.2,a)
   else mC s f (jY s a c).2.1 (acc++[(jY s a c).1])
structure At (t:Tok):Prop where
 num:t.kind=1->0<=t.n/\t.n<=2147483647/\t.s=[]
 name:t.kind=2->word t.s=true/\jD t.s=false
 sign:t.kind=3->jD t.s=true
 kinds:t.kind=1\/t.kind=2\/t.kind=3
theorem kG {s:ae} {a b:Nat} (h:b<=s.length):(cm s a b).length=b - a:=by
 unfold cm;rw [length_drop,length_take];omega
theorem oL {s:ae} {a b:Nat} {c:UInt8} (h:s[a]?=some c) (hb:a < b) (hl:b<=s.length):cm s a b=c::cm s (a+1) b:=by
 unfold cm;have ao:=(List.getElem?_eq_some_iff.1 h).1
 have:(s.take b)[a]?=some c:=by rw [getElem?_take,if_pos hb];exact h
 have h2:=(List.getElem?_eq_some_iff.1 this);rw [List.drop_eq_getElem_cons h2.1,h2.2]
theorem Cj (s:ae) (p:UInt8->Bool):∀ (f a:Nat),a<=s.length->∀ c∈cm s a (run s p f a),p c=true:=by
 intro f
 induction f with
 | zero =>
  intro a ha c hc;rw [Go.Sp.run] at hc
  have:(cm s a a).length=0:=by rw [kG ha];omega
  rw [eq_nil_of_length_eq_zero this] at hc;cases hc
 | succ f ih =>
  intro a ha c hc;rw [Go.Sp.run] at hc
  have EC:∀ x:ae,x=cm s a a->c∈x->p c=true:=fun x hx hm=>by
   have:(cm s a a).length=0:=by rw [kG ha];omega
   rw [hx,eq_nil_of_length_eq_zero this] at hm;cases hm
  cases hq:s[a]? with
  | none=>rw [hq] at hc;exact EC _ rfl hc
  | some d =>
   rw [hq] at hc;simp only at hc;have ao:=(List.getElem?_eq_some_iff.1 hq).1
   by_cases hp:p d=true
   ·rw [if_pos hp] at hc
    have lk:a+1<=Go.Sp.run s p f (a+1)/\Go.Sp.run s p f (a+1)<=s.length:=by
     have:∀ (f a:Nat),a<=s.length->a<=Go.Sp.run s p f a/\Go.Sp.run s p f a<=s.length:=by
      intro f
      induction f with
      | zero=>intro a h;exact ⟨Nat.le_refl _,h⟩
      | succ f ih =>
       intro a h;rw [Go.Sp.run]
       cases hq:s[a]? with
       | none=>exact ⟨Nat.le_refl _,h⟩
       | some d =>
        simp only;split
        ·have:=ih (a+1) (List.getElem?_eq_some_iff.1 hq).1;omega
        ·exact ⟨Nat.le_refl _,h⟩
     exact this f (a+1) ao
    rw [oL hq (by omega) lk.2] at hc
    rcases List.mem_cons.1 hc with rfl | hc
    ·exact hp
    ·exact ih (a+1) ao c hc
   ·rw [if_neg hp] at hc;exact EC _ rfl hc
theorem H6:∀ (w:ae) (n:Int),0<=n->(∀ c∈w,dP c=true)->0<=jH w n
 | [],n,h,_=>h
 | c::r,n,h,hd=>by
  rw [jH];have hc:=hd c (mem_cons_self);simp only [dP,Bool.and_eq_true,decide_eq_true_eq] at hc;split
  ·exact H6 r _ (by omega) (fun c hc=>hd c (mem_cons_of_mem _ hc))
  ·exact h
theorem N6 {x:ae} (h:jD x=true):x≠[]:=by
 intro h0;subst h0;revert h;decide
theorem Iu {s:ae} {a:Nat} {c:UInt8} (hc:s[a]?=some c) (h0:(jY s a c).2.2=0):At (jY s a c).1/\(jY s a c).1.at_=a/\a < (jY s a c).2.1/\(jY s a c).2.1<=s.length:=by
 have ao:=(List.getElem?_eq_some_iff.1 hc).1;unfold jY at h0 |-
 by_cases hd:dP c=true
 ·rw [if_pos hd] at h0 |-
  by_cases hn:jH (cm s a (jA s a)) 0 > 2147483647
  ·rw [if_pos hn] at h0;cases h0
  ·rw [if_neg hn];obtain ⟨e1,e2,e3⟩:=oX s dP (s.length+1) a (by omega) (by omega)
   have y9:a < jA s a:=by
    rcases Nat.lt_or_ge a (jA s a) with h | h
    ·exact h
    ·have he:Go.Sp.run s dP (s.length+1) a=a:=by unfold jA at h;omega
     have:=e1 c (by rw [he];exact hc);rw [hd] at this;cases this
   refine ⟨⟨fun _=>⟨H6 _ _ (by decide) (Cj s dP _ a (by omega)),by simpa using hn,rfl⟩,fun h=>by simp at h,fun h=>by simp at h,.inl rfl⟩,rfl,y9,e3⟩
 ·rw [if_neg hd] at h0 |-
  by_cases hs:small c=true
  ·rw [if_pos hs];obtain ⟨e1,e2,e3⟩:=oX s dK (s.length+1) a (by omega) (by omega)
   have u9:dK c=true:=by simp [dK,hs]
   have y9:a < et s a:=by
    rcases Nat.lt_or_ge a (et s a) with h | h
    ·exact h
    ·have he:Go.Sp.run s dK (s.length+1) a=a:=by unfold et at h;omega
     have:=e1 c (by rw [he];exact hc);rw [u9] at this;cases this
   have hw:word (eV s a)=true:=by
    have h1:eV s a=c::cm s (a+1) (et s a):=oL hc y9 e3;have h2:=Cj s dK (s.length+1) a (by omega);unfold word;have h3:(eV s a).all dK=true:=List.all_eq_true.2 h2;rw [h3,h1];simp [hs]
   refine ⟨⟨fun h=>?_,fun h=>⟨hw,?_⟩,fun h=>?_,?_⟩,rfl,y9,e3⟩
   ·simp only at h;split at h <;> cases h
   ·simp only at h;split at h
    ·cases h
    ·rename_i hh;simpa using hh
   ·simp only at h;split at h
    ·assumption
    ·cases h
   ·simp only;split
    ·exact .inr (.inr rfl)
    ·exact .inr (.inl rfl)
  ·rw [if_neg hs] at h0 |-
   by_cases hg:fJ s a=[]
   ·rw [if_pos hg] at h0;cases h0
   ·rw [if_neg hg]
    have key:jD (fJ s a)=true/\a+(fJ s a).length<=s.length:=by
     unfold fJ at hg |-
     have aux:∀ k,gk s a k=true->jD (cm s a (a+k))=true/\a+(cm s a (a+k)).length<=s.length:=fun k h=>by
      simp only [gk,Bool.and_eq_true,decide_eq_true_eq] at h;refine ⟨h.2,?_⟩;rw [kG h.1.1];have:=h.1.1;omega
     split
     ·exact aux 2 (by assumption)
     ·rename_i h2;rw [if_neg h2] at hg;split
      ·exact aux 1 (by assumption)
      ·rename_i h1;rw [if_neg h1] at hg;exact absurd rfl hg
    have hl:=List.length_pos_iff.2 (N6 key.1);exact ⟨⟨fun h=>by simp at h,fun h=>by simp at h,fun _=>key.1,.inr (.inr rfl)⟩,rfl,by simp only;omega,key.2⟩
theorem BX:∀ {l:ae} {n:Nat},pC l=some n->n+2<=l.length
 | [],n,h=>by cases h
 | b::l,n,h=>by
  rw [pC] at h;split at h
  ·rename_i hp;cases h
   cases l with
   | nil=>simp [List.isPrefixOf] at hp
   | cons d l=>simp
  ·cases hq:pC l with
   | none=>rw [hq] at h;cases h
   | some m=>rw [hq] at h;cases h;have:=BX hq;simp only [length_cons];omega
theorem rn (s:ae):∀ (f a:Nat) (acc:List Tok),a<=s.length->s.length < f+a->(∀ t∈acc,At t)->(acc.Pairwise fun x y=>x.at_ < y.at_)->(∀ t∈acc,t.at_ < (a:Int))->acc.length<=a ->
  ∃ ts c z,mC s f a acc=some (ts,c,z)/\(∀ t∈ts,At t)/\(ts.Pairwise fun x y=>x.at_ < y.at_)/\ts.length<=s.length
 | 0,a,acc,h1,h2,_,_,_,_=>by omega
 | f+1,a,acc,h1,h2,h3,h4,h5,h6=>by
  rw [mC]
  cases hc:s[a]? with
  | none=>exact ⟨acc,0,0,rfl,h3,h4,by omega⟩
  | some c =>
   simp only;have ao:=(List.getElem?_eq_some_iff.1 hc).1;split
   ·exact rn s f (a+1) acc (by omega) (by omega) h3 h4 (fun t ht=>by have:=h5 t ht;omega) (by omega)
   ·split
    ·rename_i hb;have mH:=jk hb;simp only [length_cons,length_nil] at mH
     cases hi:pC (s.drop (a+2)) with
     | none=>exact ⟨[],4,a,rfl,fun t h=>by simp at h,.nil,Nat.zero_le _⟩
     | some n =>
      have:=BX hi;rw [length_drop] at this;exact rn s f (a+(n+4)) acc (by omega) (by omega) h3 h4 (fun t ht=>by have:=h5 t ht;omega) (by omega)
    ·split
     ·exact ⟨[],_,a,rfl,fun t h=>by simp at h,.nil,Nat.zero_le _⟩
     ·rename_i h0;obtain ⟨k1,k2,k3,k4⟩:=Iu hc (by simpa using h0);refine rn s f _ _ k4 (by omega) (fun t ht=>?_) ?_ (fun t ht=>?_) (by rw [length_append];simp only [length_cons,length_nil];omega)
      ·rcases List.mem_append.1 ht with h | h
       ·exact h3 t h
       ·rw [mem_singleton] at h;subst h;exact k1
      ·rw [List.pairwise_append];refine ⟨h4,List.pairwise_singleton _ _,fun x hx y hy=>?_⟩;rw [mem_singleton] at hy;subst hy;rw [k2];exact h5 x hx
      ·rcases List.mem_append.1 ht with h | h
       ·have:=h5 t h;omega
       ·rw [mem_singleton] at h;subst h;rw [k2];omega
theorem zn (s:ae):∀ (f:Nat) (n:Int) (a:Nat),a<=s.length->s.length < f+a->jH (cm s a (number s f n a).2) n=(number s f n a).1
 | 0,n,a,h1,h2=>by omega
 | f+1,n,a,h1,h2=>by
  have EC:cm s a a=[]:=eq_nil_of_length_eq_zero (by rw [kG h1];omega);rw [number]
  cases hc:s[a]? with
  | none=>simp only;rw [EC,jH]
  | some c =>
   simp only;have ao:=(List.getElem?_eq_some_iff.1 hc).1
   by_cases hd:dP c=true
   ·rw [if_pos hd];obtain ⟨e1,e2,e3⟩:=wA s f (if n<=2147483647 then n * 10+((c.toNat:Int) - 48) else n) (a+1) (by omega) (by omega);rw [oL hc (by omega) e3,jH];have ih:=zn s f (if n<=2147483647 then n * 10+((c.toNat:Int) - 48) else n) (a+1) (by omega) (by omega)
    by_cases hn:n<=2147483647
    ·rw [if_pos hn] at ih |-;rw [if_pos hn,Int.mul_comm 10 n];exact ih
    ·rw [if_neg hn] at ih |-;rw [if_neg hn];rw [<-ih]
     cases hw:cm s (a+1) (number s f n (a+1)).2 with
     | nil=>rw [jH]
     | cons d r=>rw [jH,if_neg hn]
   ·rw [if_neg hd];simp only;rw [EC,jH]
theorem Ba (s:ae):∀ (f:Nat) (n:Int) (a:Nat),(number s f n a).2=Go.Sp.run s dP f a
 | 0,n,a=>rfl
 | f+1,n,a=>by
  rw [number,Go.Sp.run]
  cases hc:s[a]? with
  | none=>rfl
  | some c =>
   simp only;split
   ·exact Ba s f _ (a+1)
   ·rfl
theorem nD {s x:ae} {a:Nat}:bo s a x=(decide (a+x.length<=s.length)&&(cm s a (a+x.length)==x)):=rfl
theorem JU {s:ae} {a:Nat} {c:UInt8} (hc:s[a]?=some c) (hs:small c=false):fJ s a=(match bD.find? (bo s a) with | some x=>x | none=>[]):=by
 have ao:=(List.getElem?_eq_some_iff.1 hc).1
 have h2:∀ x∈bD,x.length=1\/x.length=2:=by decide
 have AY:bD=bD.take 8++bD.drop 8:=(take_append_drop 8 bD).symm
 have ko:∀ x∈bD.take 8,x.length=2:=by decide
 have fb:∀ x∈bD.drop 8,x.length=1:=by decide
 have hw:∀ x∈words,∃ d r,x=d::r/\small d=true:=by
  intro x hx
  have:∀ x∈words,(match x with | d::_=>small d | []=>false)=true:=by decide
  have:=this x hx
  cases x with
  | nil=>cases this
  | cons d r=>exact ⟨d,r,rfl,this⟩
 have WU:∀ k,1<=k->a+k<=s.length->cm s a (a+k)=c::cm s (a+1) (a+k):=fun k h1 h2=>oL hc (by omega) h2
 have dG:∀ k,1<=k->a+k<=s.length->(jD (cm s a (a+k))=true↔cm s a (a+k)∈bD):=fun k h1 h2=>by
  unfold jD;rw [xX,List.contains_iff_mem,List.mem_append];refine ⟨fun h=>h.resolve_left fun hm=>?_,.inr⟩;obtain ⟨d,r,e1,e2⟩:=hw _ hm;rw [WU k h1 h2] at e1
  cases e1;rw [hs] at e2;cases e2
 have Jk:∀ k,1<=k->(gk s a k=true↔a+k<=s.length/\cm s a (a+k)∈bD):=fun k h1=>by
  unfold gk;rw [hc];simp only [hs,Bool.not_false,Bool.and_true,Bool.and_eq_true,decide_eq_true_eq];exact ⟨fun ⟨p,q⟩=>⟨p,(dG k h1 p).1 q⟩,fun ⟨p,q⟩=>⟨p,(dG k h1 p).2 q⟩⟩
 have BW:∀ k,1<=k->k<=2->a+k<=s.length->cm s a (a+k)∈bD->(cm s a (a+k)).length=k:=fun k _ _ h _=>by rw [kG h];omega
 unfold fJ
 by_cases t2:gk s a 2=true
 ·rw [if_pos t2];obtain ⟨p,q⟩:=(Jk 2 (by decide)).1 t2
  have hq:cm s a (a+2)∈bD.take 8:=by
   rw [AY] at q
   rcases List.mem_append.1 q with h | h
   ·exact h
   ·have:=fb _ h;rw [kG p] at this;omega
  rw [AY,List.find?_append]
  have:(bD.take 8).find? (bo s a)=some (cm s a (a+2)):=by
   cases hf:(bD.take 8).find? (bo s a) with
   | none =>
    rw [find?_eq_none] at hf;have h1:=hf _ hq;rw [nD,kG p,show a+(a+2 - a)=a+2 by omega] at h1;simp [p] at h1
   | some x =>
    have h1:=List.find?_some hf;have h3:=ko x (List.mem_of_find?_eq_some hf);rw [nD,h3] at h1;simp only [Bool.and_eq_true,beq_iff_eq] at h1;rw [h1.2]
  rw [this];rfl
 ·rw [if_neg t2]
  have Xb:(bD.take 8).find? (bo s a)=none:=by
   rw [find?_eq_none];intro x hx hb;rw [nD,ko x hx] at hb;simp only [Bool.and_eq_true,beq_iff_eq,decide_eq_true_eq] at hb;exact t2 ((Jk 2 (by decide)).2 ⟨hb.1,by rw [hb.2];exact List.mem_of_mem_take hx⟩)
  rw [AY,List.find?_append,Xb]
  by_cases t1:gk s a 1=true
  ·rw [if_pos t1];obtain ⟨p,q⟩:=(Jk 1 (by decide)).1 t1
   have hq:cm s a (a+1)∈bD.drop 8:=by
    rw [AY] at q
    rcases List.mem_append.1 q with h | h
    ·have:=ko _ h;rw [kG p] at this;omega
    ·exact h
   have:(bD.drop 8).find? (bo s a)=some (cm s a (a+1)):=by
    cases hf:(bD.drop 8).find? (bo s a) with
    | none =>
     rw [find?_eq_none] at hf;have h1:=hf _ hq;rw [nD,kG p,show a+(a+1 - a)=a+1 by omega] at h1;simp [p] at h1
    | some x =>
     have h1:=List.find?_some hf;have h3:=fb x (List.mem_of_find?_eq_some hf);rw [nD,h3] at h1;simp only [Bool.and_eq_true,beq_iff_eq] at h1;rw [h1.2]
   rw [this];rfl
  ·rw [if_neg t1]
   have:(bD.drop 8).find? (bo s a)=none:=by
    rw [find?_eq_none];intro x hx hb;rw [nD,fb x hx] at hb;simp only [Bool.and_eq_true,beq_iff_eq,decide_eq_true_eq] at hb;exact t1 ((Jk 1 (by decide)).2 ⟨hb.1,by rw [hb.2];exact List.mem_of_mem_drop hx⟩)
   rw [this];rfl
theorem RQ {s:ae} {a a':Nat} {c:UInt8} {t:Tok} (hc:s[a]?=some c) (h:iI s a c=(t,a')) (hk:t.kind=1\/t.kind=2\/t.kind=3) (hn:t.n<=2147483647):jY s a c=(t,a',0):=by
 have ao:=(List.getElem?_eq_some_iff.1 hc).1;unfold iI at h;unfold jY
 by_cases hd:dP c=true
 ·rw [if_pos hd] at h |-;cases h;have e1:jA s a=(number s (s.length+1) 0 a).2:=(Ba s _ 0 a).symm;rw [e1,zn s _ 0 a (by omega) (by omega),if_neg (by simpa using hn)]
 ·rw [if_neg hd] at h |-
  by_cases hs:small c=true
  ·rw [if_pos hs] at h |-;cases h
   have EN:∃ r,eV s a=c::r\/eV s a=[]:=by
    cases hw:eV s a with
    | nil=>exact ⟨[],.inr rfl⟩
    | cons d r =>
     obtain ⟨e1,e2,e3⟩:=oX s dK (s.length+1) a (by omega) (by omega)
     have u9:dK c=true:=by simp [dK,hs]
     have y9:a < et s a:=by
      rcases Nat.lt_or_ge a (et s a) with h | h
      ·exact h
      ·have he:Go.Sp.run s dK (s.length+1) a=a:=by unfold et at h;omega
       have:=e1 c (by rw [he];exact hc);rw [u9] at this;cases this
     have h1:eV s a=c::cm s (a+1) (et s a):=oL hc y9 e3;rw [hw] at h1;cases h1;exact ⟨_,.inl rfl⟩
   have dG:jD (eV s a)=words.contains (eV s a):=by
    unfold jD;rw [xX]
    have AR:∀ x∈bD,(match x with | d::_=>small d | []=>true)=false:=by decide
    obtain ⟨r,h1⟩:=EN
    have:bD.contains (eV s a)=false:=by
     cases lH:bD.contains (eV s a) with
     | false=>rfl
     | true =>
      have:=AR _ (List.contains_iff_mem.1 lH)
      rcases h1 with h1 | h1 <;> rw [h1] at this <;> simp only at this
      ·rw [hs] at this;cases this
      ·cases this
    rw [Bool.eq_iff_iff,List.contains_iff_mem,List.mem_append,<-List.contains_iff_mem (as:=bD),this];simp
   rw [dG]
  ·rw [if_neg hs] at h |-;rw [JU hc (by simpa using hs)]
   cases hf:bD.find? (bo s a) with
   | none=>rw [hf] at h;cases h;simp at hk
   | some x =>
    rw [hf] at h;cases h;simp only;have hx:=List.mem_of_find?_eq_some hf
    have bN:x≠[]:=by
     intro h0;subst h0;revert hx;decide
    rw [if_neg bN]
theorem Q7 {s:ae} {a b:Nat} {ts:List Tok} (h:Tz s a ts b):b=s.length->∀ (f:Nat) (acc:List Tok),s.length < f+a->mC s f a acc=some (acc++ts,0,0):=by
 induction h with
 | nil a =>
  intro hb f acc hf
  cases f with
  | zero=>omega
  | succ f =>
   rw [mC];have:s[a]?=none:=List.getElem?_eq_none_iff.2 (by omega);rw [this];simp
 | blank hc mH h ih =>
  intro hb f acc hf
  cases f with
  | zero=>have:=(List.getElem?_eq_some_iff.1 hc).1;omega
  | succ f =>
   rw [mC,hc];simp only;rw [if_pos mH];exact ih hb f acc (by omega)
 | tok hc mH hr ht hk hn ha h ih =>
  intro hb f acc hf
  cases f with
  | zero=>have:=(List.getElem?_eq_some_iff.1 hc).1;omega
  | succ f =>
   rw [mC,hc];simp only;rw [if_neg (by rw [mH];decide),if_neg (by rw [hr];decide),RQ hc ht hk hn];simp only [ne_eq,not_true_eq_false,if_false];rw [ih hb f _ (by omega)];simp
end Go.Im
namespace Go.Im
open Go.Xp Go.Sp
abbrev qR (ts:List Tok):Prop:=∀ t∈ts,At t
def EF (t:T):Prop:=∃ a:E,a.ok=true/\er t=a.tree
def Ka (l:List T):Prop:=∃ es:List E,E.cI es=true/\aE l=E.trees es
def Sf (ts r:List Tok) (n:Nat):Prop:=∃ pre,ts=pre++r/\n<=pre.length
theorem Sf.nil (ts:List Tok):Sf ts ts 0:=⟨[],rfl,Nat.zero_le _⟩
theorem Sf.one (t:Tok) (ts:List Tok):Sf (t::ts) ts 1:=⟨[t],rfl,Nat.le_refl _⟩
theorem Sf.trans {a b c:List Tok} {n m:Nat} (h:Sf a b n) (k:Sf b c m):Sf a c (n+m):=by
 obtain ⟨p,rfl,h⟩:=h;obtain ⟨q,rfl,k⟩:=k;exact ⟨p++q,by simp,by rw [length_append];omega⟩
theorem Sf.le {a b:List Tok} {n m:Nat} (h:Sf a b n) (k:m<=n):Sf a b m:=by
 obtain ⟨p,rfl,h⟩:=h;exact ⟨p,rfl,by omega⟩
theorem Sf.ok {a b:List Tok} {n:Nat} (h:Sf a b n) (k:qR a):qR b:=by
 obtain ⟨p,rfl,h⟩:=h
 exact fun t ht=>k t (List.mem_append_right _ ht)
theorem Sf.aC {e:Int} {s:ae} {ts r:List Tok} (hs:s≠[]) (h:aC e s ts=.ok r):Sf ts r 1:=by
 obtain ⟨u,rfl,_⟩:=wv hs h;exact .one u r
theorem Sf.sign {s:ae} {ts:List Tok} (hs:s≠[]) (h:sign ts 0=s):Sf ts ts.tail 1:=by
 obtain ⟨u,h1,_⟩:=tg hs h;rw [h1];exact .one u _
theorem OL {s:ae} (h:jD s=false):words.contains s=false:=by
 unfold jD at h;rw [xX] at h
 cases hc:words.contains s with
 | false=>rfl
 | true =>
  rw [List.contains_iff_mem] at hc
  have:(words++bD).contains s=true:=by rw [List.contains_iff_mem];exact List.mem_append_left _ hc
  rw [h] at this;cases this
theorem Vd {t:Tok} (h:At t) (hk:t.kind=2) (hl:t.s.length<=12):be t.s=true:=by
 obtain ⟨h1,h2⟩:=h.name hk;unfold be;rw [h1,OL h2];simpa using hl
theorem Sf.name {e:Int} {s:ae} {ts r:List Tok} (h:name e ts=.ok (s,r)) (ho:qR ts):Sf ts r 1/\be s=true:=by
 obtain ⟨u,rfl,h1,rfl,h3⟩:=Ff h;exact ⟨.one u r,Vd (ho u mem_cons_self) h1 h3⟩
theorem Qv {s:ae} {k:Nat} (h:s∈levels.getD k []):ep s=true:=by
 unfold ep;rw [any_eq_true];rw [List.getD_eq_getElem?_getD] at h
 cases hk:levels[k]? with
 | none=>rw [hk] at h;simp at h
 | some l =>
  rw [hk] at h;exact ⟨l,mem_of_getElem? hk,by rw [List.contains_iff_mem];exact h⟩
theorem iV (k a:Int) (s:ae) (l:List T):aB (one k a s l)=aw l+1:=by unfold one;rw [aB]
theorem Ka.snoc {l:List T} {t:T} (h:Ka l) (k:EF t):Ka (l++[t]):=by
 obtain ⟨es,h1,h2⟩:=h;obtain ⟨a,h3,h4⟩:=k
 have key:∀ es:List E,E.cI es=true->E.cI (es++[a])=true/\E.trees (es++[a])=E.trees es++[a.tree]:=by
  intro es
  induction es with
  | nil=>intro _;simp [E.cI,E.trees,h3]
  | cons b es ih =>
   intro h;simp only [E.cI,Bool.and_eq_true] at h;obtain ⟨k1,k2⟩:=ih h.2;simp only [cons_append,E.cI,E.trees,k1,k2,h.1];simp
 obtain ⟨k1,k2⟩:=key es h1;exact ⟨es++[a],k1,by rw [Hk,h2,k2,aE,aE,h4]⟩
def ve:n8->Nat
 | .loop _ _ out=>aB out
 | _=>0
def Zb:n8->Prop
 | .loop _ _ out=>EF out
 | _=>True
theorem Rm (e:Int):∀ f,(∀ j ts t r,qR ts->Zb j->rd e f j ts=.ok (t,r)->EF t/\∃ n,Sf ts r n/\aB t<=n+ve j) /\
  (∀ d acc ts l r,qR ts->Ka acc->rd.args e f d acc ts=.ok (l,r)->Ka l/\∃ n,Sf ts r n/\aw l+1<=n+aw acc):=by
 intro f
 induction f with
 | zero=>exact ⟨fun j ts t r _ _ h=>by simp [rd] at h,fun d acc ts l r _ _ h=>by simp [rd.args] at h⟩
 | succ f ih =>
  obtain ⟨ih,xG⟩:=ih;refine ⟨fun j ts t r ho hj h=>?_,fun d acc ts l r ho hj h=>?_⟩
  ·cases j with
   | expr d =>
    rw [rd] at h;split at h
    ·cases h
    ·exact ih (.level 0 (d+1)) ts t r ho trivial h
   | level k d =>
    rw [rd] at h;split at h
    ·exact ih (.operand d) ts t r ho trivial h
    ·split at h
     ·cases h
     ·rename_i out iD hx;obtain ⟨h1,n,h2,h3⟩:=ih (.level (k+1) d) ts out iD ho trivial hx;obtain ⟨k1,m,k2,k3⟩:=ih (.loop k d out) iD t r (h2.ok ho) h1 h;exact ⟨k1,n+m,h2.trans k2,by simp only [ve] at *;omega⟩
   | loop k d out =>
    cases ts with
    | nil=>rw [rd] at h;cases h;exact ⟨hj,0,.nil _,by simp only [ve];omega⟩
    | cons t0 r0 =>
     rw [rd] at h;split at h
     ·rename_i hc;split at h
      ·cases h
      ·rename_i b r1 hx;obtain ⟨⟨b',h0,h1⟩,n,h2,h3⟩:=ih (.level (k+1) d) r0 b r1 (fun t ht=>ho t (mem_cons_of_mem _ ht)) trivial hx;obtain ⟨o',h4,h5⟩:=hj;have h6:=(Sf.one t0 r0).trans h2;obtain ⟨k1,m,k2,k3⟩:=ih (.loop k d (one 6 t0.at_ t0.s [out,b])) r1 t r (h6.ok ho) ⟨.bin t0.s o' b',by simp only [E.ok,Qv hc.2,h4,h0];rfl,by rw [dD,aE,aE,aE,h5,h1,E.tree]⟩ h;refine ⟨k1,_,h6.trans k2,?_⟩;simp only [ve,iV,aw] at *;omega
     ·cases h;exact ⟨hj,0,.nil _,by simp only [ve];omega⟩
   | operand d =>
    cases ts with
    | nil =>
     rw [rd] at h;split at h <;> cases h
    | cons t0 r0 =>
     rw [rd] at h;split at h
     ·cases h
     ·have VW:qR r0:=fun t ht=>ho t (mem_cons_of_mem _ ht)
      have vc:=Sf.one t0 r0;split at h
      ·split at h
       ·rename_i hu;split at h
        ·cases h
        ·rename_i a r1 hx;cases h;obtain ⟨⟨a',h0,h1⟩,n,h2,h3⟩:=ih (.operand (d+1)) r0 a r VW trivial hx;refine ⟨⟨.un t0.s a',?_,by rw [dD,aE,aE,h1,E.tree]⟩,_,vc.trans h2,?_⟩
         ·simp only [E.ok,h0]
          rcases hu with hu | hu | hu <;> simp [hu]
         ·simp only [ve,iV,aw] at *;omega
       ·split at h
        ·split at h
         ·cases h
         ·rename_i a r1 hx;split at h
          ·cases h
          ·rename_i r2 hm;cases h;obtain ⟨h1,n,h2,h3⟩:=ih (.expr (d+1)) r0 t r1 VW trivial hx;exact ⟨h1,_,(vc.trans h2).trans (Sf.aC (by decide) hm),by simp only [ve] at *;omega⟩
        ·cases h
      ·split at h
       ·rename_i hk;cases h;obtain ⟨k1,k2,k3⟩:=(ho t0 mem_cons_self).num hk;exact ⟨⟨.num t0.n,by simp only [E.ok];simp [k1,k2],by rw [er,aE,E.tree]⟩,1,vc,by simp only [ve,aB,aw];omega⟩
       ·split at h
        ·cases h
        ·rename_i s r1 ek;obtain ⟨k1,k2⟩:=Sf.name ek ho;split at h
         ·rename_i hb;have k3:=k1.trans (Sf.sign (by decide) hb);split at h
          ·cases h
          ·rename_i a r2 hx;split at h
           ·cases h
           ·rename_i r3 hm;cases h;obtain ⟨⟨a',h0,h1⟩,n,h2,h3⟩:=ih (.expr (d+1)) _ a r2 (k3.ok ho) trivial hx;refine ⟨⟨.at_ s a',by simp only [E.ok,k2,h0];rfl,by rw [dD,aE,aE,h1,E.tree]⟩,_,(k3.trans h2).trans (Sf.aC (by decide) hm),?_⟩;simp only [ve,iV,aw] at *;omega
         ·split at h
          ·rename_i hb;have k3:=k1.trans (Sf.sign (by decide) hb);split at h
           ·cases h
           ·rename_i l r2 hx;cases h;obtain ⟨⟨es,h0,h1⟩,n,h2,h3⟩:=xG _ _ _ l r (k3.ok ho) ⟨[],rfl,rfl⟩ hx;refine ⟨⟨.call s es,by simp only [E.ok,k2,h0];rfl,by rw [dD,h1,E.tree]⟩,_,k3.trans h2,?_⟩;simp only [ve,iV,aw] at *;omega
          ·cases h;exact ⟨⟨.name s,by simp only [E.ok,k2],by rw [dD,aE,E.tree]⟩,1,k1,by simp only [ve,iV,aw];omega⟩
  ·rw [rd.args] at h;split at h
   ·rename_i hc;cases h;exact ⟨hj,1,Sf.sign (by decide) hc,by omega⟩
   ·split at h
    ·cases h
    ·rename_i x5 hx
     have h0:Sf ts x5 0:=by
      split at hx
      ·cases hx;exact .nil _
      ·exact (Sf.aC (by decide) hx).le (Nat.zero_le _)
     split at h
     ·cases h
     ·rename_i a vG hy;obtain ⟨h1,n,h2,h3⟩:=ih (.expr d) x5 a vG (h0.ok ho) trivial hy;have h4:=h0.trans h2;obtain ⟨k1,m,k2,k3⟩:=xG _ (acc++[a]) vG l r (h4.ok ho) (hj.snoc h1) h;refine ⟨k1,_,h4.trans k2,?_⟩;simp only [ve,mr,aw] at *;omega
theorem xj {e:Int} {d:Nat} {ts r:List Tok} {t:T} (ho:qR ts) (h:expr e d ts=.ok (t,r)):EF t/\Sf ts r (aB t):=by
 obtain ⟨h1,n,h2,h3⟩:=(Rm e _).1 (.expr d) ts t r ho trivial h;exact ⟨h1,h2.le (by simpa [ve] using h3)⟩
theorem wa {e:Int} {d:Nat} {a b:ae} {ts r:List Tok} {t:T} (ha:a≠[]) (hb:b≠[]) (ho:qR ts) (h:inner e d a b ts=.ok (t,r)):EF t/\Sf ts r (aB t+2):=by
 unfold inner at h;split at h
 ·cases h
 ·rename_i x5 h1;have k1:=Sf.aC ha h1;split at h
  ·cases h
  ·rename_i t' vG h2;obtain ⟨k2,k3⟩:=xj (k1.ok ho) h2;split at h
   ·cases h
   ·rename_i ts3 h3;cases h;exact ⟨k2,((k1.trans k3).trans (Sf.aC hb h3)).le (by omega)⟩
theorem Bj {e:Int} {d:Nat} {ts r:List Tok} {s:ae} {t:T} (ho:qR ts) (h:kA e d ts=.ok ((s,t),r)):be s=true/\EF t/\Sf ts r (aB t+3):=by
 unfold kA at h;split at h
 ·cases h
 ·rename_i s' x5 h1;obtain ⟨k1,k2⟩:=Sf.name h1 ho;split at h
  ·cases h
  ·rename_i t' vG h2;cases h;obtain ⟨k3,k4⟩:=wa (by decide) (by decide) (k1.ok ho) h2;exact ⟨k2,k3,(k1.trans k4).le (by omega)⟩
def SF (t:T):Prop:=∃ a:S,a.ok=true/\er t=a.tree
def Ki (l:List T):Prop:=∃ es:List S,S.cI es=true/\aE l=S.trees es
def BF (t:T):Prop:=∃ l:List S,S.cI l=true/\er t=bB l
theorem Ki.snoc {l:List T} {t:T} (h:Ki l) (k:SF t):Ki (l++[t]):=by
 obtain ⟨es,h1,h2⟩:=h;obtain ⟨a,h3,h4⟩:=k
 have key:∀ es:List S,S.cI es=true->S.cI (es++[a])=true/\S.trees (es++[a])=S.trees es++[a.tree]:=by
  intro es
  induction es with
  | nil=>intro _;simp [S.cI,S.trees,h3]
  | cons b es ih =>
   intro h;simp only [S.cI,Bool.and_eq_true] at h;obtain ⟨k1,k2⟩:=ih h.2;simp only [cons_append,S.cI,S.trees,k1,k2,h.1];simp
 obtain ⟨k1,k2⟩:=key es h1;exact ⟨es++[a],k1,by rw [Hk,h2,k2,aE,aE,h4]⟩
theorem OD {t:T} (h:EF t) (hk:t.n.kind=3):∃ (s:ae) (a:T),t.kids=[a]/\t.n.s=s/\be s=true/\EF a:=by
 obtain ⟨a,h1,h2⟩:=h;have h3:=congrArg (fun x=>x.n.kind) h2;simp only [xh,hk] at h3
 cases a with
 | at_ s b =>
  simp only [E.ok,Bool.and_eq_true] at h1
  have h4:t.n.s=s:=by have:=congrArg (fun x=>x.n.s) h2;simp only [xh] at this;exact this
  have h5:aE t.kids=[b.tree]:=by rw [<-QK,h2];rfl
  match hl:t.kids,h5 with
  | [x],h5 =>
   rw [aE,aE] at h5
   injection h5 with h6
   exact ⟨s,x,rfl,h4,h1.1,b,h1.2,h6⟩
  | [],h5=>rw [aE] at h5;cases h5
  | x::y::r,h5=>rw [aE,aE] at h5;injection h5 with h6 h7;cases h7
 | num n=>simp [E.tree,T.n] at h3
 | name n=>simp [E.tree,T.n] at h3
 | call s l=>simp [E.tree,T.n] at h3
 | un s a=>simp [E.tree,T.n] at h3
 | bin s a b=>simp [E.tree,T.n] at h3
theorem GP {e:Int} {d:Nat} {ts r:List Tok} {t:T} (ho:qR ts) (h:simple e d ts=.ok (t,r)):SF t/\Sf ts r (aB t):=by
 unfold simple at h;split at h
 ·split at h <;> cases h
 ·rename_i t0 r0;split at h
  ·split at h
   ·cases h
   ·rename_i s a x5 h1;cases h;obtain ⟨k1,⟨a',k2,k3⟩,k4⟩:=Bj ho h1;exact ⟨⟨.set s a',by simp only [S.ok,k1,k2];rfl,by rw [dD,aE,aE,k3,S.tree]⟩,k4.le (by simp only [iV,aw];omega)⟩
  ·split at h
   ·cases h
   ·rename_i a x5 h1;obtain ⟨k1,k2⟩:=xj ho h1;split at h
    ·rename_i hc;split at h
     ·cases h
     ·rename_i v vG h2;cases h;obtain ⟨⟨v',k3,k4⟩,k5⟩:=wa (by decide) (by decide) (k2.ok ho) h2;obtain ⟨s,x,k6,k7,k8,x',k9,Zd⟩:=OD k1 hc.1;have hz:=eo a;rw [k6] at hz;simp only [aw] at hz;rw [k6];refine ⟨⟨.put s x' v',by simp only [S.ok,k8,k9,k3];rfl,?_⟩,(k2.trans k5).le ?_⟩
      ·rw [dD,k7];simp only [take_succ_cons,take_zero,cons_append,nil_append,aE,Zd,k4,S.tree]
      ·simp only [take_succ_cons,take_zero,cons_append,nil_append,iV,aw];omega
    ·split at h
     ·cases h
     ·rename_i vG h2;cases h;obtain ⟨a',k3,k4⟩:=k1;exact ⟨⟨.do_ a',by simp only [S.ok,k3],by rw [dD,aE,aE,k4,S.tree]⟩,(k2.trans (Sf.aC (by decide) h2)).le (by simp only [iV,aw];omega)⟩
theorem Rq (e:Int):∀ f,(∀ d ts t r,qR ts->rs e f (.block d) ts=.ok (t,r)->BF t/\Sf ts r (aB t))/\(∀ d ts t r,qR ts->rs e f (.stmt d) ts=.ok (t,r)->SF t/\Sf ts r (aB t)) /\
  (∀ d acc ts l r,qR ts->Ki acc->rs.body e f d acc ts=.ok (l,r)->Ki l/\∃ n,Sf ts r n/\aw l+1<=n+aw acc):=by
 intro f
 induction f with
 | zero=>exact ⟨fun d ts t r _ h=>by simp [rs] at h,fun d ts t r _ h=>by simp [rs] at h,fun d acc ts l r _ _ h=>by simp [rs.body] at h⟩
 | succ f ih =>
  obtain ⟨Wc,Y8,Wd⟩:=ih;refine ⟨fun d ts t r ho h=>?_,fun d ts t r ho h=>?_,fun d acc ts l r ho hj h=>?_⟩
  ·rw [rs] at h;split at h
   ·cases h
   ·split at h
    ·cases h
    ·rename_i r1 h1;have k1:=Sf.aC (by decide) h1;split at h
     ·cases h
     ·rename_i l r2 h2;cases h;obtain ⟨⟨es,k2,k3⟩,n,k4,k5⟩:=Wd _ [] r1 l r (k1.ok ho) ⟨[],rfl,rfl⟩ h2;exact ⟨⟨es,k2,by rw [dD,k3,bB]⟩,(k1.trans k4).le (by simp only [iV,aw] at *;omega)⟩
  ·rw [rs] at h;split at h
   ·cases h
   ·simp only at h;split at h
    ·rename_i hs;have k0:=Sf.sign (by decide) hs;split at h
     ·cases h
     ·rename_i s a x5 h1;cases h;obtain ⟨k1,⟨a',k2,k3⟩,k4⟩:=Bj (k0.ok ho) h1;exact ⟨⟨.var s a',by simp only [S.ok,k1,k2];rfl,by rw [dD,aE,aE,k3,S.tree]⟩,(k0.trans k4).le (by simp only [iV,aw];omega)⟩
    ·split at h
     ·rename_i hs
      have k0:Sf ts ts.tail 1:=by
       rcases hs with hs | hs
       ·exact Sf.sign (by decide) hs
       ·exact Sf.sign (by decide) hs
      split at h
      ·cases h
      ·rename_i c r1 h1;obtain ⟨⟨c',k1,k2⟩,k3⟩:=wa (by decide) (by decide) (k0.ok ho) h1;have k4:=k0.trans k3;split at h
       ·cases h
       ·rename_i b r2 h2;obtain ⟨⟨lb,k5,k6⟩,k7⟩:=Wc _ _ b r2 (k4.ok ho) h2;have k8:=k4.trans k7;split at h
        ·split at h
         ·rename_i dQ;have k9:=k8.trans (Sf.sign (by decide) dQ);split at h
          ·cases h
          ·rename_i b2 r3 h3;cases h;obtain ⟨⟨Zk,j5,j6⟩,j7⟩:=Wc _ _ b2 r (k9.ok ho) h3;refine ⟨⟨.if2 c' lb Zk,by simp only [S.ok,k1,k5,j5];rfl,?_⟩,(k9.trans j7).le (by simp only [iV,aw];omega)⟩;rw [dD,aE,aE,aE,aE,k2,k6,j6,S.tree,bB,bB]
         ·cases h;refine ⟨⟨.if1 c' lb,by simp only [S.ok,k1,k5];rfl,?_⟩,k8.le (by simp only [iV,aw];omega)⟩;rw [dD,aE,aE,aE,k2,k6,S.tree,bB]
        ·cases h;refine ⟨⟨.while_ c' lb,by simp only [S.ok,k1,k5];rfl,?_⟩,k8.le (by simp only [iV,aw];omega)⟩;rw [dD,aE,aE,aE,k2,k6,S.tree,bB]
     ·split at h
      ·rename_i hs;have k0:=Sf.sign (by decide) hs;split at h
       ·cases h
       ·rename_i a x5 h1;obtain ⟨⟨a',k1,k2⟩,k3⟩:=xj (k0.ok ho) h1;split at h
        ·cases h
        ·rename_i vG h2;cases h;exact ⟨⟨.ret a',by simp only [S.ok,k1],by rw [dD,aE,aE,k2,S.tree]⟩,((k0.trans k3).trans (Sf.aC (by decide) h2)).le (by simp only [iV,aw];omega)⟩
      ·exact GP ho h
  ·rw [rs.body] at h;split at h
   ·rename_i hc;cases h;exact ⟨hj,1,Sf.sign (by decide) hc,by omega⟩
   ·split at h
    ·cases h
    ·rename_i a x5 h1;obtain ⟨k1,k2⟩:=Y8 _ ts a x5 ho h1;obtain ⟨k3,m,k4,k5⟩:=Wd _ (acc++[a]) x5 l r (k2.ok ho) (hj.snoc k1) h;refine ⟨k3,_,k2.trans k4,?_⟩;simp only [mr,aw] at *;omega
theorem IW {e:Int} {d:Nat} {ts r:List Tok} {t:T} (ho:qR ts) (h:block e d ts=.ok (t,r)):BF t/\Sf ts r (aB t):=(Rq e _).1 _ ts t r ho h
end Go.Im
namespace Go.Sp
open Go.Xp
def dS (x:ae) (l:List K):Prop:=∀ pre post:ae,∃ ts,ts.map kf=l/\Tz (pre++(x++post)) pre.length ts (pre.length+x.length)
def gq (x:ae) (l:List K):Prop:=∀ pre post:ae,Sep post->∃ ts,ts.map kf=l/\Tz (pre++(x++post)) pre.length ts (pre.length+x.length)
theorem dS.s {x:ae} {l:List K} (h:dS x l):gq x l:=fun pre post _=>h pre post
theorem dS.app {x y:ae} {l m:List K} (h:dS x l) (k:dS y m):dS (x++y) (l++m):=by
 intro pre post;obtain ⟨ts,h1,h2⟩:=h pre (y++post);obtain ⟨us,h3,h4⟩:=k (pre++x) post;refine ⟨ts++us,by simp [h1,h3],?_⟩;rw [append_assoc] at h4 |-;rw [length_append] at h4 |-;rw [<-Nat.add_assoc];exact h2.app h4
theorem dS.apps {x y:ae} {l m:List K} (h:dS x l) (k:gq y m):gq (x++y) (l++m):=by
 intro pre post hp;obtain ⟨ts,h1,h2⟩:=h pre (y++post);obtain ⟨us,h3,h4⟩:=k (pre++x) post hp;refine ⟨ts++us,by simp [h1,h3],?_⟩;rw [append_assoc] at h4 |-;rw [length_append] at h4 |-;rw [<-Nat.add_assoc];exact h2.app h4
theorem gq.DU {x y:ae} {l m:List K} (h:gq x l) (k:dS y m) (hs:∀ post,Sep (y++post)):dS (x++y) (l++m):=by
 intro pre post;obtain ⟨ts,h1,h2⟩:=h pre (y++post) (hs post);obtain ⟨us,h3,h4⟩:=k (pre++x) post;refine ⟨ts++us,by simp [h1,h3],?_⟩;rw [append_assoc] at h4 |-;rw [length_append] at h4 |-;rw [<-Nat.add_assoc];exact h2.app h4
theorem dS.nil:dS [] []:=fun pre post=>⟨[],rfl,.nil _⟩
theorem xV {c:UInt8} {x:ae} (h:c∈Cm):∀ post,Sep (c::x++post):=fun post d hd=>by cases hd;exact h
theorem su {pre x:ae}:(pre++x).drop pre.length=x:=drop_left
theorem Tz.one {s:ae} {a a':Nat} {c:UInt8} {t:Tok} (hc:s[a]?=some c) (hb:dA c=false) (hr:bo s a [47,42]=false) (ht:iI s a c=(t,a')) (hk:t.kind=1\/t.kind=2\/t.kind=3) (hn:t.n<=2147483647) (ha:a < a'):Tz s a [t] a' :=
 .tok hc hb hr ht hk hn ha (.nil _)
theorem xO {c:UInt8} (h:dA c=true):dS [c] []:=by
 intro pre post;have hd:(pre++([c]++post)).drop pre.length=c::post:=su;obtain ⟨h1,_,_⟩:=ml hd;exact ⟨[],rfl,.blank h1 h (.nil _)⟩
theorem lW {c:UInt8} (hm:c∈[40,41,91,93,44,59,123,125]):dS [c] [kS [c]]:=by
 intro pre post;have hd:(pre++([c]++post)).drop pre.length=c::post:=su;obtain ⟨h1,_,h4⟩:=ml hd;obtain ⟨h2,h3,h5⟩:=NO (Nat.le_of_lt h4) hd hm;exact ⟨[_],rfl,Tz.one h1 h3 h5 h2 (by simp) (by simp) (by simp)⟩
theorem zZ {w:ae} (hm:w∈bD):gq w [kS w]:=by
 intro pre post hp;have hd:(pre++(w++post)).drop pre.length=w++post:=su
 have bN:w≠[]:=by rintro rfl;revert hm;decide
 obtain ⟨c,r,hw⟩:=List.exists_cons_of_ne_nil bN;have dq:=hd;rw [hw,cons_append] at dq;obtain ⟨h1,_,h4⟩:=ml dq;rw [<-cons_append,<-hw] at h1 h4;obtain ⟨h2,h3,h5⟩:=ON (Nat.le_of_lt h4) hd hw hm hp
 have:0 < w.length:=by rw [hw];simp
 exact ⟨[_],rfl,Tz.one h1 h3 h5 h2 (by simp) (by simp) (by omega)⟩
theorem GQ {c:UInt8} (h:small c=true):dA c=false/\c≠47:=by
 simp only [small,Bool.and_eq_true] at h;have h1:=of_decide_eq_true h.1;refine ⟨?_,fun h0=>?_⟩
 ·simp only [dA,Bool.or_eq_false_iff,beq_eq_false_iff_ne];omega
 ·subst h0;revert h1;decide
theorem C7 {s r:ae} {a:Nat} {c:UInt8} (h:s.drop a=c::r) (hc:c≠47):bo s a [47,42]=false:=by
 obtain ⟨_,_,h4⟩:=ml h;rw [uk h (Nat.le_of_lt h4)];simp only [List.isPrefixOf]
 have:((47:UInt8)==c)=false:=by rw [beq_eq_false_iff_ne];exact fun h=>hc h.symm
 rw [this,Bool.false_and]
theorem E7 {w:ae} (hw:word w=true):gq w [if words.contains w then kS w else kN w]:=by
 intro pre post hp;have hd:(pre++(w++post)).drop pre.length=w++post:=su;simp only [word,Bool.and_eq_true,all_eq_true] at hw
 match w,hw,hd with
 | [],hw,_=>simp at hw
 | c::r,hw,hd =>
  obtain ⟨aK,hs⟩:=hw;have dq:=hd;rw [cons_append] at dq;obtain ⟨h1,_,h4⟩:=ml dq;obtain ⟨h3,h5⟩:=GQ hs;have ht:=Ph (Nat.le_of_lt h4) hd rfl hs aK hp.dK;refine ⟨[_],?_,Tz.one h1 h3 (C7 dq h5) ht ?_ (by simp) (by simp)⟩
  ·simp only [List.map_cons,List.map_nil,kf,kS,kN];split <;> rfl
  ·simp only;split <;> simp
theorem jF {w:ae} (hw:be w=true):gq w [kN w]:=by
 simp only [be,Bool.and_eq_true,Bool.not_eq_true'] at hw;have:=E7 hw.1.1;rw [if_neg (by rw [hw.2];decide)] at this;exact this
theorem Me {w:ae} (hw:w∈words):gq w [kS w]:=by
 have h1:∀ w∈words,word w=true:=by decide
 have:=E7 (h1 w hw);rw [if_pos (by simpa using hw)] at this;exact this
theorem HZ {n:Nat} (hn:n<=2147483647):gq (cn n) [kI n]:=by
 intro pre post hp;have hd:(pre++(cn n++post)).drop pre.length=cn n++post:=su;obtain ⟨h1,h2,h3⟩:=Hc n;obtain ⟨c,r,hw⟩:=List.exists_cons_of_ne_nil h3;have dq:=hd;rw [hw,cons_append] at dq;obtain ⟨h4,_,h5⟩:=ml dq;rw [<-cons_append,<-hw] at h4 h5;have hc:dP c=true:=h1 c (by rw [hw];exact mem_cons_self)
 have CP:dA c=false/\c≠47:=by
  simp only [dP,Bool.and_eq_true] at hc;have h1:=of_decide_eq_true hc.1;refine ⟨?_,fun h0=>?_⟩
  ·simp only [dA,Bool.or_eq_false_iff,beq_eq_false_iff_ne];omega
  ·subst h0;revert h1;decide
 have ht:=Re (Nat.le_of_lt h5) hd hw hn hp.dP
 have:0 < (cn n).length:=by rw [hw];simp
 refine ⟨[_],rfl,Tz.one h4 CP.1 ?_ ht (by simp) (by simpa using by omega) (by omega)⟩;have AL:=dq;rw [<-cons_append,<-hw] at AL;rw [hw] at AL |-;exact C7 AL CP.2
theorem Tw {s:ae} (h:ep s=true):s∈bD:=by
 have hm:s∈levels.flatten:=by
  unfold ep at h;rw [any_eq_true] at h;obtain ⟨l,hl,hc⟩:=h;exact List.mem_flatten.2 ⟨l,hl,by simpa using hc⟩
 have key:∀ s∈levels.flatten,s∈bD:=by decide
 exact key s hm
theorem JW:dS [32] []:=xO (by decide)
theorem gq.then {x:ae} {l:List K} (h:gq x l) {c:UInt8} (hm:c∈[40,41,91,93,44,59,123,125]):dS (x++[c]) (l++[kS [c]]) :=
 h.DU (lW hm) (xV (by revert hm;unfold Cm;simp only [List.mem_cons,List.not_mem_nil,or_false];rintro (h | h | h | h | h | h | h | h) <;> simp [h]))
theorem gq.sp {x:ae} {l:List K} (h:gq x l):dS (x++[32]) l:=by
 have:=h.DU JW (xV (by decide));rw [append_nil] at this;exact this
theorem gq.eq {x:ae} {l l':List K} (h:gq x l) (e:l=l'):gq x l':=e ▸ h
theorem dS.eq {x:ae} {l l':List K} (h:dS x l) (e:l=l'):dS x l':=e ▸ h
theorem B5 {lv k:Nat} {x:ae} {l:List K} (h:gq x l):gq (pX lv k x) (yT lv k l):=by
 unfold pX yT;split
 ·have:=((lW (c:=40) (by decide)).apps h).then (c:=41) (by decide);exact this.s.eq (by simp)
 ·exact h
mutual
theorem oF:∀ a:E,a.ok=true->gq a.txt a.tk
 | .num n,h=>by
  simp only [E.ok,Bool.and_eq_true] at h;have h1:=of_decide_eq_true h.1;have h2:=of_decide_eq_true h.2;have:=HZ (n:=n.toNat) (by omega);rw [E.txt,E.tk];rw [Int.toNat_of_nonneg h1] at this;exact this
 | .name s,h=>by rw [E.txt,E.tk];exact jF h
 | .at_ s a,h=>by
  simp only [E.ok,Bool.and_eq_true] at h;rw [E.txt,E.tk];exact ((((jF h.1).then (c:=91) (by decide)).apps (oF a h.2)).then (c:=93) (by decide)).s.eq (by simp)
 | .call s l,h=>by
  simp only [E.ok,Bool.and_eq_true] at h;rw [E.txt,E.tk];exact ((((jF h.1).then (c:=40) (by decide)).apps (U3 l h.2)).then (c:=41) (by decide)).s.eq (by simp)
 | .un s a,h=>by
  simp only [E.ok,Bool.and_eq_true,Bool.or_eq_true,beq_iff_eq] at h;rw [E.txt,E.tk]
  have hs:s∈bD:=by rcases h.1 with (h | h) | h <;> (rw [h];decide)
  exact ((zZ hs).sp.apps (B5 (oF a h.2))).eq (by simp)
 | .bin s a b,h=>by
  simp only [E.ok,Bool.and_eq_true] at h;rw [E.txt,E.tk];exact ((((B5 (oF a h.1.2)).sp.apps (zZ (Tw h.1.1))).sp).apps (B5 (oF b h.2))).eq (by simp)
theorem U3:∀ l:List E,E.cI l=true->gq (bx (E.cE l)) (E.mi l)
 | [],_=>dS.nil.s
 | a::l,h=>by
  simp only [E.cI,Bool.and_eq_true] at h;rw [E.cE,E.mi,bx];exact P3 l h.2 _ _ (oF a h.1)
theorem P3:∀ l:List E,E.cI l=true->∀ x m,gq x m->gq (x++(E.cE l).flatMap fun y=>44::32::y) (m++E.pP l)
 | [],_,x,m,hx=>by rw [E.cE,E.pP];simpa using hx
 | a::l,h,x,m,hx=>by
  simp only [E.cI,Bool.and_eq_true] at h;have h1:=((hx.then (c:=44) (by decide)).app JW).apps (oF a h.1);have h2:=P3 l h.2 _ _ h1;rw [E.cE,E.pP,flatMap_cons]
  have e1:x++((44::32::a.txt)++(E.cE l).flatMap fun y=>44::32::y)=(x++[44]++[32]++a.txt)++(E.cE l).flatMap fun y=>44::32::y:=by simp
  rw [e1];exact h2.eq (by simp)
end
theorem gq.set {x:ae} {l:List K} (h:gq x l):dS (x++[32,61,32]) (l++[kS [61]]):=by
 have:=(h.sp.apps (zZ (w:=[61]) (by decide))).sp;simpa using this
theorem tW {w:ae} (hw:w∈words):dS (w++[32]) [kS w]:=(Me hw).sp
mutual
theorem U4:∀ s:S,s.ok=true->dS (s.txt E.txt) s.tk
 | .set s a,h=>by
  simp only [S.ok,Bool.and_eq_true] at h;rw [S.txt,S.tk];exact (((jF h.1).set.apps (oF a h.2)).then (c:=59) (by decide)).eq (by simp)
 | .put s a b,h=>by
  simp only [S.ok,Bool.and_eq_true] at h;rw [S.txt,S.tk];have h1:=((((jF h.1).then (c:=91) (by decide)).apps (oF a h.2.1)).then (c:=93) (by decide)).s.set;have h2:=(h1.apps (oF b h.2.2)).then (c:=59) (by decide)
  have e:s++[91]++a.txt++[93,32,61,32]++b.txt++[59]=s++[91]++a.txt++[93]++[32,61,32]++b.txt++[59]:=by simp
  rw [e];exact h2.eq (by simp)
 | .if1 c b,h=>by
  simp only [S.ok,Bool.and_eq_true] at h;rw [S.txt,S.tk];have h1:=((((tW (w:=[105,102]) (by decide)).app (lW (c:=40) (by decide))).apps (oF c h.1)).then (c:=41) (by decide)).s.sp;have h2:=h1.app (lexB b h.2)
  have e:[105,102,32,40]++c.txt++[41,32]++(S.cE E.txt [123,32] b++[125])=[105,102]++[32]++[40]++c.txt++[41]++[32]++(S.cE E.txt [123,32] b++[125]):=by simp
  rw [e];exact h2.eq (by simp [dI])
 | .if2 c b b2,h=>by
  simp only [S.ok,Bool.and_eq_true] at h;rw [S.txt,S.tk];have h1:=((((tW (w:=[105,102]) (by decide)).app (lW (c:=40) (by decide))).apps (oF c h.1)).then (c:=41) (by decide)).s.sp;have h2:=h1.app (lexB b h.2.1);have h3:=((h2.s.sp.apps (Me (w:=[101,108,115,101]) (by decide))).sp).app (lexB b2 h.2.2)
  have e:[105,102,32,40]++c.txt++[41,32]++(S.cE E.txt [123,32] b++[125])++[32,101,108,115,101,32]++(S.cE E.txt [123,32] b2++[125])=[105,102]++[32]++[40]++c.txt++[41]++[32]++(S.cE E.txt [123,32] b++[125])++[32]++[101,108,115,101]++[32]++(S.cE E.txt [123,32] b2++[125]):=by simp
  rw [e];exact h3.eq (by simp [dI,dY])
 | .while_ c b,h=>by
  simp only [S.ok,Bool.and_eq_true] at h;rw [S.txt,S.tk];have h1:=((((tW (w:=[119,104,105,108,101]) (by decide)).app (lW (c:=40) (by decide))).apps (oF c h.1)).then (c:=41) (by decide)).s.sp;have h2:=h1.app (lexB b h.2)
  have e:[119,104,105,108,101,32,40]++c.txt++[41,32]++(S.cE E.txt [123,32] b++[125])=[119,104,105,108,101]++[32]++[40]++c.txt++[41]++[32]++(S.cE E.txt [123,32] b++[125]):=by simp
  rw [e];exact h2.eq (by simp [dr])
 | .ret a,h=>by
  simp only [S.ok] at h;rw [S.txt,S.tk];have h1:=((tW (w:=[114,101,116,117,114,110]) (by decide)).apps (oF a h)).then (c:=59) (by decide);exact h1.eq (by simp [db])
 | .do_ a,h=>by
  simp only [S.ok] at h;rw [S.txt,S.tk];exact (oF a h).then (c:=59) (by decide)
 | .var s a,h=>by
  simp only [S.ok,Bool.and_eq_true] at h;rw [S.txt,S.tk];have h1:=((((tW (w:=[118,97,114]) (by decide)).apps (jF h.1)).set).apps (oF a h.2)).then (c:=59) (by decide);exact h1.eq (by simp [gn])
theorem lexB:∀ l:List S,S.cI l=true->dS (S.cE E.txt [123,32] l++[125]) (kS [123]::(S.mi l++[kS [125]]))
 | l,h=>by
  have h0:dS [123,32] [kS [123]]:=by
   have:=(lW (c:=123) (by decide)).s.sp;simpa using this
  exact ((P4 l h _ _ h0).s.then (c:=125) (by decide)).eq (by simp)
theorem P4:∀ l:List S,S.cI l=true->∀ acc m,dS acc m->dS (S.cE E.txt acc l) (m++S.mi l)
 | [],_,acc,m,h=>by rw [S.cE,S.mi,append_nil];exact h
 | a::l,ho,acc,m,h=>by
  simp only [S.cI,Bool.and_eq_true] at ho;rw [S.cE,S.mi];have h1:=(h.app (U4 a ho.1)).s.sp;exact (P4 l ho.2 _ _ h1).eq (by simp)
end
theorem dS.all {x:ae} {l:List K} (h:dS x l):∃ ts,ts.map kf=l/\Tz x 0 ts x.length:=by
 obtain ⟨ts,h1,h2⟩:=h [] [];exact ⟨ts,h1,by simpa using h2⟩
theorem HX {l:List S} (h:S.cI l=true):dS (eQ E.txt l) (IV l):=lexB l h
end Go.Sp
namespace Go.Im
open Go.Xp Go.Sp
def Lh (s:ae):List K:=[kS kY,kN s,kS [59]]
def GZ (a:Ar):List K:=[kS kY,kN a.name,kS [91],kI a.size,kS [93],kS [59]]
def uz:List ae->List K
 | []=>[]
 | s::r=>kS [44]::kN s::uz r
def Fm:List ae->List K
 | []=>[]
 | s::r=>kN s::uz r
def Hn (x:Fn × List S):List K:=kS mg::kN x.1.name::kS [40]::(Fm x.1.params++kS [41]::IV x.2)
def f2 (x:Fn × List S):ae:=((((([102,117,110,99,32]++x.1.name)++[40])++bx x.1.params)++[41,32])++eQ E.txt x.2)++[10]
theorem HY:dS [59,10] [kS [59]]:=(lW (c:=59) (by decide)).app (xO (c:=10) (by decide))
theorem U7 {s:ae} (h:be s=true):dS (g1 s) (Lh s) :=
 ((tW (w:=kY) (by decide)).apps (jF h)).DU HY (xV (c:=59) (x:=[10]) (by decide))
theorem U5 {a:Ar} (h:nX a=true):dS (a1 a) (GZ a):=by
 unfold nX at h;simp only [Bool.and_eq_true,Bool.not_eq_true',decide_eq_false_iff_not] at h;obtain ⟨⟨h1,h2⟩,h3⟩:=h
 have hz:nK a.size=cn a.size.toNat:=by unfold nK;rw [if_neg h2]
 have hk:kI a.size=kI ((a.size.toNat:Nat):Int):=by rw [Int.toNat_of_nonneg (by omega)]
 have x1:=((tW (w:=kY) (by decide)).apps (jF h1)).then (c:=91) (by decide);have x2:=x1.apps (HZ (n:=a.size.toNat) (by omega));have x3:=x2.DU ((lW (c:=93) (by decide)).app HY) (xV (c:=93) (x:=[59,10]) (by decide));unfold a1 GZ;rw [hz,hk];exact x3
theorem Mf:∀ (ps:List ae),ca ps=true->∀ x m,gq x m->gq (x++ps.flatMap fun y=>44::32::y) (m++uz ps)
 | [],_,x,m,h=>by rw [List.flatMap_nil,append_nil,uz,append_nil];exact h
 | s::r,hp,x,m,h=>by
  unfold ca at hp;rw [all_cons,Bool.and_eq_true] at hp;have h1:=(h.then (c:=44) (by decide)).app JW;have h2:=h1.apps (jF hp.1);have h3:=Mf r hp.2 _ _ h2;rw [flatMap_cons,uz];refine gq.eq (cast (congrArg (fun z=>gq z _) ?_) h3) ?_
  ·simp
  ·simp
theorem U8 {ps:List ae} (h:ca ps=true):gq (bx ps) (Fm ps):=by
 match ps,h with
 | [],_=>exact dS.nil.s
 | s::r,h =>
  unfold ca at h;rw [all_cons,Bool.and_eq_true] at h;exact Mf r h.2 s [kN s] (jF h.1)
theorem U6 {x:Fn × List S} (h1:be x.1.name=true) (h2:ca x.1.params=true) (h3:S.cI x.2=true):dS (f2 x) (Hn x):=by
 have x1:=((tW (w:=mg) (by decide)).apps (jF h1)).then (c:=40) (by decide);have x2:=(x1.apps (U8 h2)).DU ((lW (c:=41) (by decide)).app JW) (xV (c:=41) (x:=[32]) (by decide));have x3:=(x2.app (HX h3)).app (xO (c:=10) (by decide));refine dS.eq x3 ?_;simp [Hn]
theorem yx {α:Type} {f:α->ae} {k:α->List K}:∀ (l:List α),(∀ x∈l,dS (f x) (k x))->∀ acc m,dS acc m->dS (dd f acc l) (m++l.flatMap k)
 | [],_,acc,m,h=>by rw [dd,List.flatMap_nil,append_nil];exact h
 | x::l,hl,acc,m,h=>by
  rw [dd,flatMap_cons,<-append_assoc];exact yx l (fun y hy=>hl y (mem_cons_of_mem _ hy)) _ _ (h.app (hl x mem_cons_self))
theorem KA {inl:List ae->Nat->ae}:∀ (fns:List Fn) (l:List T) (ls:List (List S)) (acc:ae),ls.length=l.length->(∀ (i:Nat) t b,l[i]?=some t->ls[i]?=some b->mG cJ inl 0 t=eQ E.txt b) ->
  dd (f1 cJ inl) acc (fns.zip l)=dd f2 acc (fns.zip ls)
 | [],l,ls,acc,_,_=>by simp [dd]
 | f::r,[],[],acc,_,_=>by simp [dd]
 | f::r,t::l,b::ls,acc,hl,h=>by
  have h0:=h 0 t b rfl rfl;rw [zip_cons_cons,zip_cons_cons,dd,dd,KA r l ls _ (by simpa using hl) fun i t' b' h1 h2=>h (i+1) t' b' (by simpa using h1) (by simpa using h2)];simp only [f1,f2,h0]
 | f::r,[],b::ls,acc,hl,_=>by simp at hl
 | f::r,t::l,[],acc,hl,_=>by simp at hl
section
variable {p q:RS} {ts r rest:List Tok} {u:Tok} {s:ae}
theorem pU (h:On p (u::r)):tok p 0=u:=by rw [On.tok h];rfl
theorem zW (h:On p (u::r)) (hk:kf u=kS s):is p 0 s=true:=by
 obtain ⟨h1,h2⟩:=dO hk;unfold is;rw [pU h,h1,h2];simp
theorem Jn (h:On p (u::r)) {k:K} (hk:kf u=k) (hn:k.1=3->k.2.2≠s):is p 0 s=false:=by
 unfold is;rw [pU h];subst hk
 by_cases h3:u.kind=3
 ·have:=hn h3;simp only [kf] at this;simp [h3,this]
 ·simp [h3]
theorem tz (h:On p (u::r)) (hk:kf u=kS s):want p s=p.next:=by unfold want;rw [if_pos h.code,if_pos (zW h hk)]
theorem xQ (h:On p (u::r)) (hk:kf u=kN s) (hl:be s=true):bd p=p.next:=by
 obtain ⟨h1,h2⟩:=pD hk;have:=lX hl;unfold bd;rw [if_pos h.code,pU h,if_pos h1,if_neg (by rw [h2];omega)]
theorem nx (h:On p (u::r)):On p.next r:=h.next.1
theorem ed (h:On p (u::r)):p.next.l=p.l/\p.next.e=p.e:=⟨h.next.2.1,h.next.2.2⟩
theorem XA (h:On p (u::r)):p.i < p.l.length:=by
 have:=congrArg List.length h.rest;rw [length_drop,length_cons] at this;omega
theorem TB (h:On p []):¬ p.i < p.l.length:=by
 have:=congrArg List.length h.rest;rw [length_drop,length_nil] at this;omega
theorem HM {G f:Nat} {st:PS} (h:p.code≠0) (hg:1<=G):mM G f p st=some (p,st):=by
 obtain ⟨G,rfl⟩:∃ g',G=g'+1:=⟨G - 1,by omega⟩;rw [mM,if_neg (fun hc=>h hc.1)]
theorem yw {f:Nat} {acc:List ae} (h:p.code≠0) (hg:1<=f):oq f acc p=some (acc,p):=by
 obtain ⟨f,rfl⟩:∃ g',f=g'+1:=⟨f - 1,by omega⟩;rw [oq,if_neg (fun hc=>h hc.1),fD h]
end
theorem Xu {f:Nat} {p:RS} {st:PS} {ts rest:List Tok} {s:ae} (hp:On p (ts++rest)) (ht:ts.map kf=Lh s) (hs:be s=true) :
  ∃ q,iW f p st=some (q,{ st with globals:=st.globals++[s] })/\bA p q (.ok rest):=by
 obtain ⟨u,r,rfl,h1,ht⟩:=map_cons ht;obtain ⟨v,r,rfl,h2,ht⟩:=map_cons ht;obtain ⟨w,rfl,h3⟩:=gM ht;simp only [cons_append,nil_append] at hp;have p1:=nx hp;have p2:=nx p1;have p3:=nx p2;refine ⟨p.next.next.next,?_,p3,by rw [(ed p2).1,(ed p1).1,(ed hp).1],by rw [(ed p2).2,(ed p1).2,(ed hp).2]⟩;unfold iW;rw [if_pos (zW hp h1),xQ p1 h2 hs,Jn p2 h3 (by decide),if_neg (by rintro ⟨_,h⟩;cases h),tz p2 h3,pU p1,(pD h2).2]
theorem Xs {f:Nat} {p:RS} {st:PS} {ts rest:List Tok} {a:Ar} (hp:On p (ts++rest)) (ht:ts.map kf=GZ a) (hs:be a.name=true) :
  ∃ q,iW f p st=some (q,{ st with arrays:=st.arrays++[a] })/\bA p q (.ok rest):=by
 obtain ⟨u,r,rfl,h1,ht⟩:=map_cons ht;obtain ⟨v,r,rfl,h2,ht⟩:=map_cons ht;obtain ⟨w,r,rfl,h3,ht⟩:=map_cons ht;obtain ⟨x,r,rfl,h4,ht⟩:=map_cons ht;obtain ⟨y,r,rfl,h5,ht⟩:=map_cons ht;obtain ⟨z,rfl,h6⟩:=gM ht;simp only [cons_append,nil_append] at hp;have p1:=nx hp;have p2:=nx p1;have p3:=nx p2;have p4:=nx p3;have p5:=nx p4;have p6:=nx p5;refine ⟨p.next.next.next.next.next.next,?_,p6,by rw [(ed p5).1,(ed p4).1,(ed p3).1,(ed p2).1,(ed p1).1,(ed hp).1],by rw [(ed p5).2,(ed p4).2,(ed p3).2,(ed p2).2,(ed p1).2,(ed hp).2]⟩;unfold iW;rw [if_pos (zW hp h1),xQ p1 h2 hs,if_pos ⟨p2.code,zW p2 h3⟩,pU p3,if_pos (N8 h4).1,tz p4 h5,tz p5 h6,pU p1,(pD h2).2,(N8 h4).2]
theorem PY {rest:List Tok} {u:Tok} (hu:kf u=kS [41]):∀ (ps:List ae) (f:Nat) (acc:List ae) (p:RS) (ts:List Tok),ps.length < f->acc≠[]->ca ps=true->On p (ts++u::rest)->ts.map kf=uz ps ->
  ∃ q,oq f acc p=some (acc++ps,q)/\bA p q (.ok rest)
 | [],f,acc,p,ts,hf,ha,_,hp,ht=>by
  obtain ⟨f,rfl⟩:∃ g',f=g'+1:=⟨f - 1,by omega⟩
  have:ts=[]:=by simpa [uz] using ht
  subst this;rw [nil_append] at hp;refine ⟨p.next,?_,nx hp,ed hp⟩;rw [oq,if_neg (by rw [zW hp hu];rintro ⟨_,h⟩;cases h),tz hp hu,append_nil]
 | s::ps,f,acc,p,ts,hf,ha,hn,hp,ht=>by
  obtain ⟨f,rfl⟩:∃ g',f=g'+1:=⟨f - 1,by omega⟩;rw [uz] at ht;obtain ⟨v,r,rfl,h1,ht⟩:=map_cons ht;obtain ⟨w,r,rfl,h2,ht⟩:=map_cons ht;unfold ca at hn;rw [all_cons,Bool.and_eq_true] at hn;simp only [cons_append] at hp;have p1:=nx hp;have p2:=nx p1
  have Yq:acc.length≠0:=fun h=>ha (eq_nil_of_length_eq_zero h)
  rw [length_cons] at hf
  obtain ⟨q,h3,h4⟩:=PY hu ps f (acc++[s]) p.next.next r (by omega) (by simp) hn.2 p2 ht
  refine ⟨q,?_,h4.1,by rw [h4.2.1,(ed p1).1,(ed hp).1],by rw [h4.2.2,(ed p1).2,(ed hp).2]⟩;rw [oq,if_pos ⟨hp.code,Jn hp h1 (by decide)⟩,if_neg Yq,tz hp h1,pU p1,(pD h2).2,xQ p1 h2 hn.1,h3];simp
theorem UU {rest:List Tok} {u:Tok} (hu:kf u=kS [41]) (ps:List ae) (f:Nat) (p:RS) (ts:List Tok) (hf:ps.length < f) (hn:ca ps=true) (hp:On p (ts++u::rest)) (ht:ts.map kf=Fm ps) :
  ∃ q,oq f [] p=some (ps,q)/\bA p q (.ok rest):=by
 obtain ⟨f,rfl⟩:∃ g',f=g'+1:=⟨f - 1,by omega⟩
 match ps,hn,ht,hf with
 | [],_,ht,_ =>
  have:ts=[]:=by simpa [Fm] using ht
  subst this;rw [nil_append] at hp;refine ⟨p.next,?_,nx hp,ed hp⟩;rw [oq,if_neg (by rw [zW hp hu];rintro ⟨_,h⟩;cases h),tz hp hu]
 | s::ps,hn,ht,hf =>
  rw [Fm] at ht;obtain ⟨w,r,rfl,h2,ht⟩:=map_cons ht;unfold ca at hn;rw [all_cons,Bool.and_eq_true] at hn;simp only [cons_append] at hp;have p2:=nx hp;rw [length_cons] at hf
  obtain ⟨q,h3,h4⟩:=PY hu ps f ([]++[s]) p.next r (by omega) (by simp) hn.2 p2 ht
  refine ⟨q,?_,h4.1,by rw [h4.2.1,(ed hp).1],by rw [h4.2.2,(ed hp).2]⟩;rw [oq,if_pos ⟨hp.code,Jn hp h2 (fun h=>by cases h)⟩,if_pos (by rfl),pU hp,(pD h2).2,xQ hp h2 hn.1,h3];rfl
def fW (p:RS):Nat:=40 * p.l.length+100
theorem Fo:∀ ps:List ae,ps.length<=(uz ps).length
 | []=>Nat.zero_le _
 | s::r=>by have:=Fo r;rw [uz,length_cons,length_cons,length_cons];omega
theorem Rj (ps:List ae):ps.length<=(Fm ps).length:=by
 cases ps with
 | nil=>exact Nat.zero_le _
 | cons s r=>have:=Fo r;rw [Fm,length_cons,length_cons];omega
theorem On.len {p:RS} {ts:List Tok} (h:Go.Sp.On p ts):ts.length<=p.l.length:=by
 rw [<-h.rest,length_drop];omega
theorem Tn {f:Nat} {q:RS} {ts:List Tok} (hq:Go.Sp.On q ts) (hs:sj q.l) (hf:fW q<=f):∃ t q',iS f (.block 1) q=some (t,q')/\iL q q' t (block q.e 1 ts):=by
 obtain ⟨t,q',h1,h2⟩:=(Y9 (l9 ts)).block 1 ts q hq hs vL;have:=On.len hq;exact ⟨t,q',h1 f (by unfold KI l9;unfold fW at hf;omega),h2⟩
theorem Xt {f:Nat} {p:RS} {st:PS} {ts rest:List Tok} {x:Fn × List S} (hp:On p (ts++rest)) (hs:sj p.l) (hf:fW p<=f) (ht:ts.map kf=Hn x) (h1:be x.1.name=true) (h2:ca x.1.params=true) (h3:S.cI x.2=true) :
  (ei x.2 1=true->∃ q t,iW f p st=some (q,{ st with trees:=st.trees++[t],fns:=st.fns++[(x.1.name,x.1.params)] })/\er t=bB x.2/\bA p q (.ok rest)) /\
  (ei x.2 1=false->∃ q dN,iW f p st=some (q,dN)/\q.code≠0):=by
 obtain ⟨u,r,rfl,k1,ht⟩:=map_cons ht;obtain ⟨v,r,rfl,k2,ht⟩:=map_cons ht;obtain ⟨w,r,rfl,k3,ht⟩:=map_cons ht;obtain ⟨A,r,rfl,k4,ht⟩:=da ht;obtain ⟨y,r,rfl,k5,ht⟩:=map_cons ht;simp only [cons_append,append_assoc] at hp;have p1:=nx hp;have p2:=nx p1;have p3:=nx p2
 have hl:p.next.next.next.l=p.l:=by rw [(ed p2).1,(ed p1).1,(ed hp).1]
 have hA:x.1.params.length<=A.length:=by have:=Rj x.1.params;rw [<-k4,length_map] at this;exact this
 have ct:=On.len p3;simp only [length_append] at ct;rw [hl] at ct
 have SP:x.1.params.length < f:=by unfold fW at hf;omega
 obtain ⟨q,h4,h5⟩:=UU k5 x.1.params f p.next.next.next A SP h2 p3 k4
 have qa:q.l=p.l:=h5.2.1.trans hl;obtain ⟨t,q',h6,h7⟩:=Tn (f:=f) h5.1 (by rw [qa];exact hs) (by unfold fW at hf |-;rw [qa];exact hf);obtain ⟨r1,r2⟩:=DV (e:=q.e) (d:=1) (rest:=rest) h3 ht
 have hw:iW f p st=some (q',{ st with trees:=st.trees++[t],fns:=st.fns++[(x.1.name,x.1.params)] }):=by
  unfold iW;rw [if_neg (by rw [Jn hp k1 (by decide)];decide),if_pos (zW hp k1),xQ p1 k2 h1,tz p2 k3,h4];simp only;rw [if_pos h5.1.code,h6,pU p1,(pD k2).2]
 refine ⟨fun uw=>?_,fun uw=>?_⟩
 ·obtain ⟨t',j1,j2⟩:=r1 uw;rw [j2] at h7;obtain ⟨rfl,j3⟩:=h7;exact ⟨q',t,hw,j1,j3.1,j3.2.1.trans qa,j3.2.2.trans (h5.2.2.trans (by rw [(ed p2).2,(ed p1).2,(ed hp).2]))⟩
 ·obtain ⟨pos,j2⟩:=r2 uw;rw [j2] at h7;exact ⟨q',_,hw,bA.err h7⟩
theorem qo {G f:Nat} {p q:RS} {st dN:PS} {u:Tok} {r:List Tok} (hp:On p (u::r)) (h:iW f p st=some (q,dN)):mM (G+1) f p st=mM G f q dN:=by
 rw [mM,if_pos ⟨hp.code,XA hp⟩,h]
theorem P1 {f:Nat} {rest:List Tok}:∀ (gs:List ae) (p:RS) (st:PS) (ts:List Tok),On p (ts++rest)->ts.map kf=gs.flatMap Lh->ca gs=true ->
  ∃ q,bA p q (.ok rest)/\∀ G,mM (G+gs.length) f p st=mM G f q { st with globals:=st.globals++gs }
 | [],p,st,ts,hp,ht,_=>by
  have:ts=[]:=by simpa using ht
  subst this;exact ⟨p,On.self hp,fun G=>by simp⟩
 | s::gs,p,st,ts,hp,ht,hn=>by
  rw [flatMap_cons] at ht;obtain ⟨A,B,rfl,h1,h2⟩:=da ht;unfold ca at hn;rw [all_cons,Bool.and_eq_true] at hn;rw [append_assoc] at hp;obtain ⟨q,h3,h4⟩:=Xu (f:=f) (st:=st) hp h1 hn.1;obtain ⟨q',h5,h6⟩:=P1 gs q { st with globals:=st.globals++[s] } B h4.1 h2 hn.2;refine ⟨q',h4.tr h5,fun G=>?_⟩;obtain ⟨u,r,rfl,_,_⟩:=map_cons h1;rw [length_cons,<-Nat.add_assoc,qo hp h3,h6];simp
theorem PZ {f:Nat} {rest:List Tok}:∀ (as:List Ar) (p:RS) (st:PS) (ts:List Tok),On p (ts++rest)->ts.map kf=as.flatMap GZ->as.all nX=true ->
  ∃ q,bA p q (.ok rest)/\∀ G,mM (G+as.length) f p st=mM G f q { st with arrays:=st.arrays++as }
 | [],p,st,ts,hp,ht,_=>by
  have:ts=[]:=by simpa using ht
  subst this;exact ⟨p,On.self hp,fun G=>by simp⟩
 | s::gs,p,st,ts,hp,ht,hn=>by
  rw [flatMap_cons] at ht;obtain ⟨A,B,rfl,h1,h2⟩:=da ht;rw [all_cons,Bool.and_eq_true] at hn;rw [append_assoc] at hp
  have ek:be s.name=true:=by have:=hn.1;unfold nX at this;simp only [Bool.and_eq_true] at this;exact this.1.1
  obtain ⟨q,h3,h4⟩:=Xs (f:=f) (st:=st) hp h1 ek;obtain ⟨q',h5,h6⟩:=PZ gs q { st with arrays:=st.arrays++[s] } B h4.1 h2 hn.2;refine ⟨q',h4.tr h5,fun G=>?_⟩;obtain ⟨u,r,rfl,_,_⟩:=map_cons h1;rw [length_cons,<-Nat.add_assoc,qo hp h3,h6];simp
def Um (x:Fn × List S):Prop:=be x.1.name=true/\ca x.1.params=true/\S.cI x.2=true
theorem P0 {f:Nat}:∀ (xs:List (Fn × List S)) (p:RS) (st:PS) (ts:List Tok),On p ts->sj p.l->fW p<=f->ts.map kf=xs.flatMap Hn->(∀ x∈xs,Um x) ->
  ((xs.all fun x=>ei x.2 1)=true->∃ q l,(∀ G,xs.length < G->mM G f p st=some (q,{ st with trees:=st.trees++l,fns:=st.fns++xs.map fun x=>(x.1.name,x.1.params) }))/\q.code=0/\aE l=xs.map fun x=>bB x.2) /\
  ((xs.all fun x=>ei x.2 1)=false->∃ q dN,(∀ G,xs.length < G->mM G f p st=some (q,dN))/\q.code≠0)
 | [],p,st,ts,hp,_,_,ht,_=>by
  have:ts=[]:=by simpa using ht
  subst this;refine ⟨fun _=>⟨p,[],fun G hG=>?_,hp.code,by rw [aE];rfl⟩,fun h=>by cases h⟩;obtain ⟨G,rfl⟩:∃ g',G=g'+1:=⟨G - 1,by rw [length_nil] at hG;omega⟩;rw [mM,if_neg (fun hc=>TB hp hc.2)];simp
 | x::xs,p,st,ts,hp,hs,hf,ht,hx=>by
  rw [flatMap_cons] at ht;obtain ⟨A,B,rfl,h1,h2⟩:=da ht;obtain ⟨x1,x2,x3⟩:=hx x mem_cons_self;obtain ⟨k1,k2⟩:=Xt (st:=st) hp hs hf h1 x1 x2 x3
  have bN:∃ u r,A++B=u::r:=by obtain ⟨u,r,rfl,_,_⟩:=map_cons h1;exact ⟨u,_,rfl⟩
  obtain ⟨u,r,hu⟩:=bN;rw [hu] at hp
  cases hb:ei x.2 1 with
  | false =>
   obtain ⟨q,dN,k3,k4⟩:=k2 hb;refine ⟨fun h=>(by rw [all_cons,hb] at h;cases h),fun _=>⟨q,dN,fun G hG=>?_,k4⟩⟩;obtain ⟨G,rfl⟩:∃ g',G=g'+1:=⟨G - 1,by rw [length_cons] at hG;omega⟩;rw [qo hp k3,HM k4 (by rw [length_cons] at hG;omega)]
  | true =>
   obtain ⟨q,t,k3,k4,k5⟩:=k1 hb;have qa:q.l=p.l:=k5.2.1;obtain ⟨j1,j2⟩:=P0 (f:=f) xs q { st with trees:=st.trees++[t],fns:=st.fns++[(x.1.name,x.1.params)] } B k5.1 (by rw [qa];exact hs) (by unfold fW at hf |-;rw [qa];exact hf) h2 (fun y hy=>hx y (mem_cons_of_mem _ hy));rw [all_cons,hb,Bool.true_and];refine ⟨fun h=>?_,fun h=>?_⟩
   ·obtain ⟨q',l,j3,j4,j5⟩:=j1 h;refine ⟨q',t::l,fun G hG=>?_,j4,by rw [aE,k4,j5];rfl⟩;obtain ⟨G,rfl⟩:∃ g',G=g'+1:=⟨G - 1,by rw [length_cons] at hG;omega⟩;rw [qo hp k3,j3 G (by rw [length_cons] at hG;omega)];simp
   ·obtain ⟨q',dN,j3,j4⟩:=j2 h;refine ⟨q',dN,fun G hG=>?_,j4⟩;obtain ⟨G,rfl⟩:∃ g',G=g'+1:=⟨G - 1,by rw [length_cons] at hG;omega⟩;rw [qo hp k3,j3 G (by rw [length_cons] at hG;omega)]
theorem Mu (G:List ae) (As:List Ar) (xs:List (Fn × List S)) (h1:ca G=true) (h2:As.all nX=true) (h3:∀ x∈xs,Um x) :
  ∃ ts,Tz (dd f2 (dd a1 (dd g1 [] G) As) xs) 0 ts (dd f2 (dd a1 (dd g1 [] G) As) xs).length /\
  (sj ts->∀ (e:Int) (g f:Nat),ts.length+1<=g->40 * ts.length+100<=f ->
   ((xs.all fun x=>ei x.2 1)=true->∃ q l,mM g f ⟨ts,0,e,0,0⟩ .empty=some (q,⟨l,G,As,xs.map fun x=>(x.1.name,x.1.params)⟩)/\q.code=0/\aE l=xs.map fun x=>bB x.2) /\
   ((xs.all fun x=>ei x.2 1)=false->∃ q dN,mM g f ⟨ts,0,e,0,0⟩ .empty=some (q,dN)/\q.code≠0)):=by
 have l1:=yx (f:=g1) (k:=Lh) G (fun s hs=>U7 (List.all_eq_true.1 h1 s hs)) [] [] dS.nil;have l2:=yx (f:=a1) (k:=GZ) As (fun s hs=>U5 (List.all_eq_true.1 h2 s hs)) _ _ l1;have l3:=yx (f:=f2) (k:=Hn) xs (fun x hx=>by obtain ⟨a,b,c⟩:=h3 x hx;exact U6 a b c) _ _ l2;obtain ⟨ts,k1,k2⟩:=l3.all;refine ⟨ts,k2,fun hs e g f hg hf=>?_⟩;rw [nil_append] at k1;obtain ⟨A,C,rfl,k3,k4⟩:=da k1;obtain ⟨A,B,rfl,k5,k6⟩:=da k3;have CT:On ⟨(A++B)++C,0,e,0,0⟩ (A++(B++C)):=⟨rfl,Nat.zero_le _,by simp,k2.kinds⟩;obtain ⟨q1,j1,j2⟩:=P1 (f:=f) G _ .empty A CT k5 h1;obtain ⟨q2,j3,j4⟩:=PZ (f:=f) As q1 _ B j1.1 k6 h2;have qa:q2.l=(A++B)++C:=(j1.tr j3).2.1;obtain ⟨j5,j6⟩:=P0 (f:=f) xs q2 { ({ PS.empty with globals:=PS.empty.globals++G }:PS) with arrays:=PS.empty.arrays++As } C j3.1 (by rw [qa];exact hs) (by unfold fW;rw [qa];exact hf) k4 h3
 have c1:G.length<=A.length:=by
  have:=congrArg List.length k5;rw [length_map] at this;rw [this];clear this k5 j1 j2 j3 j4 j5 j6 qa CT hs k1 k2 k3 l1 l2 l3 hf hg h1
  induction G with
  | nil=>exact Nat.le_refl _
  | cons s G ih=>rw [flatMap_cons,length_append,length_cons];simp only [Lh,length_cons,length_nil];omega
 have c2:As.length<=B.length:=by
  have:=congrArg List.length k6;rw [length_map] at this;rw [this];clear this k6 j1 j2 j3 j4 j5 j6 qa CT hs k1 k2 k3 l1 l2 l3 hf hg h2
  induction As with
  | nil=>exact Nat.le_refl _
  | cons s G ih=>rw [flatMap_cons,length_append,length_cons];simp only [GZ,length_cons,length_nil];omega
 have c3:xs.length<=C.length:=by
  have:=congrArg List.length k4;rw [length_map] at this;rw [this];clear this k4 j1 j2 j3 j4 j5 j6 qa CT hs k1 k2 k3 l1 l2 l3 hf hg h3
  induction xs with
  | nil=>exact Nat.le_refl _
  | cons s G ih=>rw [flatMap_cons,length_append,length_cons];simp only [Hn,length_cons];omega
 rw [length_append,length_append] at hg;have mz:∃ g',xs.length < g'/\g=g'+As.length+G.length:=⟨g - As.length - G.length,by omega,by omega⟩;obtain ⟨g',lj,rfl⟩:=mz;rw [j2,j4];refine ⟨fun h=>?_,fun h=>?_⟩
 ·obtain ⟨q,l,j7,j8,j9⟩:=j5 h;exact ⟨q,l,j7 g' lj,j8,j9⟩
 ·obtain ⟨q,dN,j7,j8⟩:=j6 h;exact ⟨q,dN,j7 g' lj,j8⟩
end Go.Im
namespace Go.Im
open Go.Xp Go.Sp
structure Bv (st:PS):Prop where
 globals:ca st.globals=true
 arrays:st.arrays.all nX=true
 fns:∀ x∈st.fns,be x.1=true/\ca x.2=true
 trees:∀ t∈st.trees,BF t
 len:st.fns.length=st.trees.length
theorem zk {a b:List ae} (h:ca a=true) (k:ca b=true):ca (a++b)=true:=by
 unfold ca at *;rw [List.all_append,h,k];rfl
theorem zm {s:ae} (h:be s=true):ca [s]=true:=by
 unfold ca;rw [all_cons,h];rfl
theorem Sf.len {a b:List Tok} {n:Nat} (h:Sf a b n):b.length+n<=a.length:=by
 obtain ⟨p,rfl,h⟩:=h;rw [length_append];omega
theorem HK:∀ (f:Nat) (acc:List ae) (p:RS) (ts:List Tok),On p ts->qR ts->ts.length+1 < f->ca acc=true ->
  ∃ l q,oq f acc p=some (l,q)/\((∃ r n,bA p q (.ok r)/\ca l=true/\Sf ts r n)\/q.code≠0)
 | 0,acc,p,ts,_,_,hf,_=>by omega
 | f+1,acc,p,ts,hp,ho,hf,hn=>by
  rw [oq]
  by_cases hc:p.code=0/\is p 0 [41]=false
  ·rw [if_pos hc]
   have kW:(∃ r,bA p (if acc.length=0 then p else want p [44]) (.ok r)/\Sf ts r 0)\/(if acc.length=0 then p else want p [44]).code≠0:=by
    by_cases ha:acc.length=0
    ·rw [if_pos ha];exact .inl ⟨ts,On.self hp,.nil _⟩
    ·rw [if_neg ha]
     rcases lE hp (s:=[44]) (by decide) with ⟨r,h1,h2⟩ | ⟨x,h1,h2⟩
     ·exact .inl ⟨r,h2,(Sf.aC (by decide) h1).le (Nat.zero_le _)⟩
     ·exact .inr (bA.err h2)
   generalize (if acc.length=0 then p else want p [44])=p' at *
   rcases kW with ⟨r,h1,h2⟩ | h1
   ·rcases sW h1.1 with ⟨r2,h3,h4⟩ | ⟨x,h3,h4⟩
    ·obtain ⟨k1,k2⟩:=Sf.name h3 (h2.ok ho);have hlen:=(h2.trans k1).len;obtain ⟨l,q,k3,k4⟩:=HK f (acc++[(tok p' 0).s]) (bd p') r2 h4.1 ((h2.trans k1).ok ho) (by omega) (zk hn (zm k2));refine ⟨l,q,k3,?_⟩
     rcases k4 with ⟨r3,n,k5,k6,k7⟩ | k5
     ·exact .inl ⟨r3,_,(h1.tr h4).tr k5,k6,(h2.trans k1).trans k7⟩
     ·exact .inr k5
    ·exact ⟨_,_,yw (bA.err h4) (by omega),.inr (bA.err h4)⟩
   ·rw [Ml h1];exact ⟨_,_,yw h1 (by omega),.inr h1⟩
  ·rw [if_neg hc]
   rcases lE hp (s:=[41]) (by decide) with ⟨r,h1,h2⟩ | ⟨x,h1,h2⟩
   ·exact ⟨acc,_,rfl,.inl ⟨r,1,h2,hn,Sf.aC (by decide) h1⟩⟩
   ·exact ⟨acc,_,rfl,.inr (bA.err h2)⟩
theorem Tp {f:Nat} {p:RS} {st:PS} {u:Tok} {r0:List Tok} (hp:On p (u::r0)) (ho:qR (u::r0)) (hs:sj p.l) (hf:fW p<=f) (bq:Bv st) :
  ∃ q dN,iW f p st=some (q,dN)/\((∃ r n,bA p q (.ok r)/\Bv dN/\Sf (u::r0) r (n+1)/\aw dN.trees<=n+1+aw st.trees)\/q.code≠0):=by
 have p1:=nx hp;have eL:=Sf.one u r0;unfold iW
 by_cases h1:is p 0 kY=true
 ·rw [if_pos h1]
  rcases sW p1 with ⟨r1,a1,a2⟩ | ⟨x,a1,a2⟩
  ·obtain ⟨b1,b2⟩:=Sf.name a1 (eL.ok ho);have b3:=eL.trans b1;have a3:bA p (bd p.next) (.ok r1):=(On.next hp).tr a2
   by_cases h2:(bd p.next).code=0/\is (bd p.next) 0 [91]=true
   ·rw [if_pos h2]
    have h3:sign r1 0=[91]:=by
     have:=On.is a2.1 0 (s:=[91]) (by decide);rw [h2.2] at this;simpa using this.symm
    obtain ⟨v,h4,_⟩:=tg (by decide) h3;have b4:=b3.trans (Sf.sign (by decide) h3);have p2:=a2.1;rw [h4] at p2
    have a4:bA p (bd p.next).next (.ok r1.tail):=a3.tr (On.next p2)
    have p3:=nx p2
    by_cases h5:(tok (bd p.next).next 0).kind=1
    ·rw [if_pos h5]
     cases hr:r1.tail with
     | nil =>
      rw [hr] at p3;have:=On.tok p3 0;rw [this] at h5;cases h5
     | cons w r3 =>
      rw [hr] at p3 a4 b4;have p4:=nx p3;have b5:=b4.trans (Sf.one w r3);have a5:=a4.tr (On.next p3);rw [pU p3] at h5;have hw:=(b4.ok ho w mem_cons_self).num h5
      rcases lE p4 (s:=[93]) (by decide) with ⟨r4,c1,c2⟩ | ⟨x,c1,c2⟩
      ·rcases lE c2.1 (s:=[59]) (by decide) with ⟨r5,d1,d2⟩ | ⟨x,d1,d2⟩
       ·refine ⟨_,_,rfl,.inl ⟨r5,0,(a5.tr c2).tr d2,⟨bq.globals,?_,bq.fns,bq.trees,bq.len⟩,((b5.trans (Sf.aC (by decide) c1)).trans (Sf.aC (by decide) d1)).le (by omega),by simp only;omega⟩⟩;simp only;rw [List.all_append,bq.arrays,all_cons,List.all_nil,Bool.and_true,Bool.true_and];unfold nX;rw [pU p3,b2];simp only [Bool.and_eq_true,Bool.not_eq_true',decide_eq_false_iff_not];exact ⟨⟨trivial,by omega⟩,by omega⟩
       ·exact ⟨_,_,rfl,.inr (bA.err d2)⟩
      ·refine ⟨_,_,rfl,.inr ?_⟩;rw [fD (bA.err c2)];exact bA.err c2
    ·rw [if_neg h5];exact ⟨_,_,rfl,.inr (bA.err (On.jP p3))⟩
   ·rw [if_neg h2]
    rcases lE a2.1 (s:=[59]) (by decide) with ⟨r4,c1,c2⟩ | ⟨x,c1,c2⟩
    ·exact ⟨_,_,rfl,.inl ⟨r4,0,a3.tr c2,⟨zk bq.globals (zm b2),bq.arrays,bq.fns,bq.trees,bq.len⟩,(b3.trans (Sf.aC (by decide) c1)).le (by omega),by simp only;omega⟩⟩
    ·exact ⟨_,_,rfl,.inr (bA.err c2)⟩
  ·rw [if_neg (fun h=>bA.err a2 h.1),fD (bA.err a2)];exact ⟨_,_,rfl,.inr (bA.err a2)⟩
 ·rw [if_neg h1]
  by_cases h2:is p 0 mg=true
  ·rw [if_pos h2]
   rcases sW p1 with ⟨r1,a1,a2⟩ | ⟨x,a1,a2⟩
   ·obtain ⟨b1,b2⟩:=Sf.name a1 (eL.ok ho);have b3:=eL.trans b1;have a3:bA p (bd p.next) (.ok r1):=(On.next hp).tr a2
    rcases lE a2.1 (s:=[40]) (by decide) with ⟨r2,c1,c2⟩ | ⟨x,c1,c2⟩
    ·have b4:=b3.trans (Sf.aC (by decide) c1);have a4:=a3.tr c2;have hl:=On.len c2.1;have ko:(want (bd p.next) [40]).l=p.l:=a4.2.1;obtain ⟨l,q,k1,k2⟩:=HK f [] _ r2 c2.1 (b4.ok ho) (by rw [ko] at hl;unfold fW at hf;omega) rfl;rw [k1];simp only
     rcases k2 with ⟨r3,n,k3,k4,k5⟩ | k3
     ·have a5:=a4.tr k3;have qa:q.l=p.l:=a5.2.1;rw [if_pos k3.1.code];obtain ⟨t,q',k6,k7⟩:=Tn (f:=f) k3.1 (by rw [qa];exact hs) (by unfold fW at hf |-;rw [qa];exact hf);rw [k6];simp only;have b5:=b4.trans k5
      cases hb:block q.e 1 r3 with
      | error x=>rw [hb] at k7;exact ⟨_,_,rfl,.inr (bA.err k7)⟩
      | ok y =>
       obtain ⟨t',r4⟩:=y;rw [hb] at k7;obtain ⟨rfl,k7⟩:=k7;obtain ⟨k8,k9⟩:=IW (b5.ok ho) hb;refine ⟨_,_,rfl,.inl ⟨r4,n+aB t+2,a5.tr k7,⟨bq.globals,bq.arrays,?_,?_,?_⟩,(b5.trans k9).le (by omega),?_⟩⟩
       ·intro x hx
        rcases List.mem_append.1 hx with hx | hx
        ·exact bq.fns x hx
        ·rw [mem_singleton] at hx;subst hx;exact ⟨b2,k4⟩
       ·intro x hx
        rcases List.mem_append.1 hx with hx | hx
        ·exact bq.trees x hx
        ·rw [mem_singleton] at hx;subst hx;exact k8
       ·simp only [length_append,length_cons,length_nil];have:=bq.len;omega
       ·simp only [mr,aw];omega
     ·rw [if_neg k3];exact ⟨_,_,rfl,.inr k3⟩
    ·rw [yw (bA.err c2) (by unfold fW at hf;omega)];simp only;rw [if_neg (bA.err c2)];exact ⟨_,_,rfl,.inr (bA.err c2)⟩
   ·rw [fD (bA.err a2),yw (bA.err a2) (by unfold fW at hf;omega)];simp only;rw [if_neg (bA.err a2)];exact ⟨_,_,rfl,.inr (bA.err a2)⟩
  ·rw [if_neg h2];exact ⟨_,_,rfl,.inr (bA.err (On.jP hp))⟩
theorem HL {f:Nat}:∀ (G:Nat) (p:RS) (st:PS) (ts:List Tok),On p ts->qR ts->sj p.l->fW p<=f->Bv st->ts.length < G ->
  ∃ q dN,mM G f p st=some (q,dN)/\(q.code=0->Bv dN/\aw dN.trees<=ts.length+aw st.trees)
 | 0,p,st,ts,_,_,_,_,_,hG=>by omega
 | G+1,p,st,ts,hp,ho,hs,hf,bq,hG=>by
  cases ts with
  | nil =>
   rw [mM,if_neg (fun hc=>TB hp hc.2)];exact ⟨p,st,rfl,fun _=>⟨bq,by simp⟩⟩
  | cons u r0 =>
   obtain ⟨q,dN,h1,h2⟩:=Tp hp ho hs hf bq;rw [qo hp h1];rw [length_cons] at hG
   rcases h2 with ⟨r,n,h3,h4,h5,h6⟩ | h3
   ·have hl:=h5.len;rw [length_cons] at hl;have qa:q.l=p.l:=h3.2.1;obtain ⟨q',Zt,k1,k2⟩:=HL G q dN r h3.1 (h5.ok ho) (by rw [qa];exact hs) (by unfold fW at hf |-;rw [qa];exact hf) h4 (by omega);exact ⟨q',Zt,k1,fun hc=>by obtain ⟨k3,k4⟩:=k2 hc;exact ⟨k3,by rw [length_cons];omega⟩⟩
   ·exact ⟨q,dN,HM h3 (by omega),fun hc=>absurd hc h3⟩
def oz (st:PS):List Fn:=st.fns.mapIdx fun i x=>⟨x.1,x.2,((aw (st.trees.take i):Nat):Int)⟩
def same (p:Src) (st:PS):Bool:=eZ (fun x y=>x==y) p.globals st.globals&&(eZ yV p.arrays st.arrays&&(eZ qN p.fns (oz st)&&eZ kz p.nodes (dX 0 st.trees)))
structure Reads (x:ae) (ts:List Tok) (c z:Int) (q:RS) (st:PS):Prop where
 lex:mC x (x.length+1) 0 []=some (ts,c,z)
 len:ts.length<=x.length
 read:mM (ts.length+1) (40 * ts.length+100) ⟨ts,0,(x.length:Int),0,0⟩ .empty=some (q,st)
 ok:q.code=0->Bv st/\aw st.trees<=ts.length
theorem reads (x:ae):∃ ts c z q st,Reads x ts c z q st:=by
 obtain ⟨ts,c,z,h1,h2,h3,h4⟩:=rn x (x.length+1) 0 [] (Nat.zero_le _) (by omega) (fun t h=>by simp at h) .nil (fun t h=>by simp at h) (Nat.le_refl _);have CT:On ⟨ts,0,(x.length:Int),0,0⟩ ts:=⟨rfl,Nat.zero_le _,rfl,fun t ht=>(h2 t ht).kinds⟩;obtain ⟨q,st,h5,h6⟩:=HL (f:=40 * ts.length+100) (ts.length+1) _ .empty ts CT h2 h3 (Nat.le_refl _) ⟨rfl,rfl,fun x h=>(by cases h),fun x h=>(by cases h),rfl⟩ (by omega);exact ⟨ts,c,z,q,st,h1,h4,h5,fun h=>by obtain ⟨a,b⟩:=h6 h;exact ⟨a,by simpa [PS.empty,aw] using b⟩⟩
structure Forms (l:List T) (ls:List (List S)):Prop where
 len:ls.length=l.length
 at_:∀ (i:Nat) t b,l[i]?=some t->ls[i]?=some b->S.cI b=true/\er t=bB b
theorem Ed:∀ (l:List T),(∀ t∈l,BF t)->∃ ls,Forms l ls
 | [],_=>⟨[],rfl,fun i t b h=>by simp at h⟩
 | t::l,h=>by
  obtain ⟨b,h1,h2⟩:=h t mem_cons_self
  obtain ⟨ls,h3⟩:=Ed l fun u hu=>h u (mem_cons_of_mem _ hu)
  refine ⟨b::ls,by simp [h3.len],fun i t' b' k1 k2=>?_⟩
  cases i with
  | zero=>cases k1;cases k2;exact ⟨h1,h2⟩
  | succ i=>exact h3.at_ i t' b' (by simpa using k1) (by simpa using k2)
theorem fw.mem {Q:Fn->T->Prop}:∀ {fns:List Fn} {a:Nat} {l:List T},fw Q fns a l->(∀ f∈fns,∃ t∈l,Q f t)/\(∀ t∈l,∃ f∈fns,Q f t)
 | [],_,[],_=>⟨fun f h=>(by cases h),fun f h=>(by cases h)⟩
 | f::r,a,t::l,h=>by
  rw [fw] at h;obtain ⟨k1,k2⟩:=fw.mem h.2.2;refine ⟨fun g hg=>?_,fun u hu=>?_⟩
  ·rcases List.mem_cons.1 hg with rfl | hg
   ·exact ⟨t,mem_cons_self,h.2.1⟩
   ·obtain ⟨u,a,b⟩:=k1 g hg;exact ⟨u,mem_cons_of_mem _ a,b⟩
  ·rcases List.mem_cons.1 hu with rfl | hu
   ·exact ⟨f,mem_cons_self,h.2.1⟩
   ·obtain ⟨g,a,b⟩:=k2 u hu;exact ⟨g,mem_cons_of_mem _ a,b⟩
 | [],_,t::l,h=>by cases h
 | f::r,_,[],h=>by cases h
theorem fK.I6 {p:Src} {l:List T} (h:fK p l):∃ ls,Forms l ls:=by
 refine Ed l fun t ht=>?_
 obtain ⟨f,_,h1⟩:=(fw.mem h.fns).2 t ht;exact Zw h1.all h1.kind
theorem fK.at_ {p:Src} {l:List T} (h:fK p l):lO l:=by
 have:∀ l:List T,(∀ t∈l,cZ t=true)->lO l:=by
  intro l
  induction l with
  | nil=>intro _;trivial
  | cons t l ih=>intro h;rw [lO];exact ⟨Kn t (h t mem_cons_self),ih fun u hu=>h u (mem_cons_of_mem _ hu)⟩
 refine this l fun t ht=>?_
 obtain ⟨f,_,h1⟩:=(fw.mem h.fns).2 t ht;exact h1.all
theorem fK.Av {p:Src} {l:List T} (h:fK p l):iq p.nodes p.fns 0 []=some (l,p.nodes.length):=by
 rw [G5 p.fns 0 [] l h.st h.fns h.at_,h.len];simp
theorem fK.k {p:Src} {l:List T} (h:fK p l):l.all fQ=true:=by
 rw [all_eq_true];intro t ht;obtain ⟨f,_,h1⟩:=(fw.mem h.fns).2 t ht;exact Ps t h1.all
theorem La {l:List T} {ls:List (List S)} (h:Forms l ls):aE l=ls.map bB:=by
 rw [rY];apply List.ext_getElem?;intro i;rw [getElem?_map,getElem?_map];have hl:=h.len
 cases h1:l[i]? with
 | none =>
  rw [List.getElem?_eq_none_iff] at h1;rw [List.getElem?_eq_none_iff.2 (by omega)];rfl
 | some t =>
  have hi:=(List.getElem?_eq_some_iff.1 h1).1
  have h2:ls[i]?=some (ls[i]'(by omega)):=by simp [hl,hi]
  rw [h2];exact congrArg some (h.at_ i t _ h1 h2).2
theorem zip_fst {α β:Type}:∀ (a:List α) (b:List β),a.length=b.length->(a.zip b).map Prod.fst=a
 | [],[],_=>rfl
 | x::a,y::b,h=>by rw [zip_cons_cons,List.map_cons,zip_fst a b (by simpa using h)]
 | [],y::b,h=>by simp at h
 | x::a,[],h=>by simp at h
theorem Cy {α β:Type}:∀ (a:List α) (b:List β),a.length=b.length->(a.zip b).map Prod.snd=b
 | [],[],_=>rfl
 | x::a,y::b,h=>by rw [zip_cons_cons,List.map_cons,Cy a b (by simpa using h)]
 | [],y::b,h=>by simp at h
 | x::a,[],h=>by simp at h
theorem xZ (l:List T) (i:Nat):aw (l.take i)=aw ((aE l).take i):=by
 rw [rY,<-List.map_take,<-rY,vC]
theorem TU {p:Src} {l:List T} {l':List T} {ls:List (List S)} (h:fK p l) (he:aE l'=aE l):same p ⟨l',p.globals,p.arrays,p.fns.map fun x=>(x.name,x.params)⟩=true:=by
 unfold same;simp only [Bool.and_eq_true];refine ⟨qj (fun x=>by simp) _,qj (fun x=>by simp [yV]) _,?_,?_⟩
 ·have:oz ⟨l',p.globals,p.arrays,p.fns.map fun x=>(x.name,x.params)⟩=p.fns:=by
   unfold oz;apply List.ext_getElem?;intro i;simp only [List.getElem?_mapIdx,getElem?_map]
   cases hf:p.fns[i]? with
   | none=>rfl
   | some f =>
    have hlen:=fw.len h.fns;have hi:=(List.getElem?_eq_some_iff.1 hf).1
    have ht:l[i]?=some (l[i]'(by omega)):=by simp [<-hlen,hi]
    have hb:=(fw.at_ h.fns i f _ hf ht).1;rw [Nat.zero_add,xZ,<-he,<-xZ] at hb;simp only [Option.map_some];rw [<-hb]
  rw [this];refine qj (fun x=>?_) _;simp [qN,qj]
 ·rw [dh.all h.st h.len];exact BQ _ _ 0 he.symm
theorem Ts {p:Src} {l:List T} {ls:List (List S)} (h:fK p l) (hf:Forms l ls):mA cJ fu p l=dd f2 (dd a1 (dd g1 [] p.globals) p.arrays) (p.fns.zip ls):=by
 unfold mA
 refine KA _ _ _ _ hf.len fun i t b h1 h2=>?_
 obtain ⟨h3,h4⟩:=hf.at_ i t b h1 h2;rw [<-Ku,h4];exact uN b h3 0
theorem JX {p:Src} {l:List T} {ls:List (List S)} (h:fK p l) (hf:Forms l ls) {ts:List Tok} {c z:Int} {q:RS} {st:PS} (hr:Reads (mA cJ fu p l) ts c z q st) :
  c=0/\((ls.all fun b=>ei b 1)=true->q.code=0/\aw st.trees<=800/\same p st=true)/\((ls.all fun b=>ei b 1)=false->q.code≠0):=by
 have hx:=Ts h hf;have hlen:=fw.len h.fns;have oS:=hf.len
 have rL:∀ x∈p.fns.zip ls,Um x:=by
  intro x hx;obtain ⟨f,b⟩:=x;obtain ⟨i,hi⟩:=List.getElem?_of_mem hx;rw [List.getElem?_zip_eq_some] at hi;have rJ:=(List.getElem?_eq_some_iff.1 hi.2).1
  have ht:l[i]?=some (l[i]'(by omega)):=by simp [<-oS,rJ]
  have h1:=(fw.at_ h.fns i f _ hi.1 ht).2;exact ⟨h1.name,h1.params,(hf.at_ i _ b ht hi.2).1⟩
 obtain ⟨us,h1,h2⟩:=Mu p.globals p.arrays (p.fns.zip ls) h.globals h.arrays rL;rw [<-hx] at h1;have h3:=Q7 h1 rfl ((mA cJ fu p l).length+1) [] (by omega);rw [nil_append,hr.lex] at h3;simp only [Option.some.injEq,Prod.mk.injEq] at h3;obtain ⟨rfl,rfl,rfl⟩:=h3
 have Xl:sj ts:=by
  obtain ⟨iD,c',z',k1,k2,k3,k4⟩:=rn (mA cJ fu p l) ((mA cJ fu p l).length+1) 0 [] (Nat.zero_le _) (by omega) (fun t h=>by simp at h) .nil (fun t h=>by simp at h) (Nat.le_refl _);rw [hr.lex] at k1;cases k1;exact k3
 obtain ⟨h4,h5⟩:=h2 Xl ((mA cJ fu p l).length:Int) (ts.length+1) (40 * ts.length+100) (Nat.le_refl _) (Nat.le_refl _)
 have aK:((p.fns.zip ls).all fun x=>ei x.2 1)=ls.all fun b=>ei b 1:=by
  have:ls=(p.fns.zip ls).map Prod.snd:=(Cy _ _ (by omega)).symm
  conv=>rhs;rw [this]
  rw [List.all_map];rfl
 rw [aK] at h4 h5;refine ⟨rfl,fun uw=>?_,fun uw=>?_⟩
 ·obtain ⟨q',l',k1,k2,k3⟩:=h4 uw;rw [hr.read] at k1;simp only [Option.some.injEq,Prod.mk.injEq] at k1;obtain ⟨rfl,rfl⟩:=k1
  have e1:((p.fns.zip ls).map fun x=>bB x.2)=ls.map bB:=by
   have:ls=(p.fns.zip ls).map Prod.snd:=(Cy _ _ (by omega)).symm
   conv=>rhs;rw [this]
   rw [map_map];rfl
  have e2:((p.fns.zip ls).map fun x=>(x.1.name,x.1.params))=p.fns.map fun x=>(x.name,x.params):=by
   have:p.fns=(p.fns.zip ls).map Prod.fst:=(zip_fst _ _ (by omega)).symm
   conv=>rhs;rw [this]
   rw [map_map];rfl
  have he:aE l'=aE l:=by rw [k3,e1,La hf]
  refine ⟨k2,?_,?_⟩
  ·simp only;rw [<-vC,he,vC,h.len];exact h.few
  ·rw [e2];exact TU (ls:=ls) h he
 ·obtain ⟨q',dN,k1,k2⟩:=h5 uw;rw [hr.read] at k1;simp only [Option.some.injEq,Prod.mk.injEq] at k1;obtain ⟨rfl,rfl⟩:=k1;exact k2
theorem Hj {α:Type} {p:α->α->Bool} {a b:List α} (h:eZ p a b=true) {x:α} (hx:x∈a):∃ y∈b,p x y=true:=by
 obtain ⟨i,hi⟩:=List.getElem?_of_mem hx;have hl:=yi h;have ao:=(List.getElem?_eq_some_iff.1 hi).1
 have hb:b[i]?=some (b[i]'(by omega)):=by simp [<-hl,ao]
 exact ⟨_,mem_of_getElem? hb,D4 hi hb h⟩
theorem JN {p:Src} {l:List T} (hn:p.nodes.length<=800) (hb:iq p.nodes p.fns 0 []=some (l,p.nodes.length)) {st:PS} (fc:Bv st) (hs:same p st=true):fK p l:=by
 obtain ⟨l',h1,h2,h3,h4,h5⟩:=BG _ _ _ _ _ hb;rw [nil_append] at h1;subst h1;unfold same at hs;simp only [Bool.and_eq_true] at hs;obtain ⟨s1,s2,s3,s4⟩:=hs
 have hz:aw l=p.nodes.length:=by omega
 have S1:=dh.all h2 hz;rw [S1] at s4
 have hlen:l.length=st.trees.length:=by
  have a1:=fw.len h3;have a2:=yi s3;unfold oz at a2;rw [List.length_mapIdx] at a2;have:=fc.len;omega
 have he:=Rw hlen s4
 have iz:∀ f∈p.fns,be f.name=true/\ca f.params=true:=by
  intro f hf;obtain ⟨g,hg,hp⟩:=Hj s3 hf;unfold oz at hg;obtain ⟨i,hi⟩:=List.getElem?_of_mem hg;rw [List.getElem?_mapIdx] at hi
  cases hx:st.fns[i]? with
  | none=>rw [hx] at hi;cases hi
  | some x =>
   rw [hx] at hi;cases hi;simp only [qN,Bool.and_eq_true,beq_iff_eq] at hp;obtain ⟨⟨k1,k2⟩,_⟩:=hp;obtain ⟨k3,k4⟩:=fc.fns x (mem_of_getElem? hx);rw [k1,yh k2];exact ⟨k3,k4⟩
 have V3:∀ t∈l,t.n.kind=14/\cZ t=true:=by
  intro t ht
  have h6:er t∈aE l:=by rw [rY];exact List.mem_map_of_mem ht
  rw [he,rY] at h6;obtain ⟨u,hu,h7⟩:=List.mem_map.1 h6;obtain ⟨b,k1,k2⟩:=fc.trees u hu;rw [h7] at k2
  have wP:xa t:=by
   have:∀ l:List T,lO l->t∈l->xa t:=by
    intro l
    induction l with
    | nil=>intro _ h;cases h
    | cons v l ih =>
     intro h hm;rw [lO] at h
     rcases List.mem_cons.1 hm with rfl | hm
     ·exact h.1
     ·exact ih h.2 hm
   exact this l h5 ht
  refine ⟨?_,Ko t (by rw [k2];exact S.uO b k1) wP⟩;have:=congrArg (fun x=>x.n.kind) k2;simp only [xh] at this;exact this
 refine ⟨?_,?_,h2,fw.mono h3 fun f t hf ht _=>⟨(iz f hf).1,(iz f hf).2,(V3 t ht).1,(V3 t ht).2⟩,hz,hn⟩
 ·rw [yh s1];exact fc.globals
 ·rw [all_eq_true];intro a ha;obtain ⟨b,hb,hp⟩:=Hj s2 ha;have h6:=List.all_eq_true.1 fc.arrays b hb;simp only [yV,Bool.and_eq_true,beq_iff_eq] at hp;unfold nX at h6 |-;rw [hp.1,hp.2];exact h6
end Go.Im
namespace Go.Im
open Go.Xp Go.Sp
def aW {α:Type} (f:α->Nat):List α->Nat
 | []=>0
 | x::l=>f x+aW f l
theorem Ag {α:Type} (f:α->Nat) (a b:List α):aW f (a++b)=aW f a+aW f b:=by
 induction a with
 | nil=>simp [aW]
 | cons x a ih=>simp only [cons_append,aW,ih];omega
theorem RE {α:Type} {f g:α->Nat} {l:List α} (h:∀ x∈l,f x<=g x):aW f l<=aW g l:=by
 induction l with
 | nil=>exact Nat.le_refl _
 | cons x l ih =>
  have h1:=h x mem_cons_self
  have h2:=ih fun y hy=>h y (mem_cons_of_mem _ hy)
  simp only [aW];omega
theorem ny {α:Type} {f:α->Nat} {l:List α} {x:α} (h:x∈l):f x<=aW f l:=by
 induction l with
 | nil=>cases h
 | cons y l ih =>
  rw [aW]
  rcases List.mem_cons.1 h with rfl | h
  ·omega
  ·have:=ih h;omega
theorem nw {α:Type} {f g:α->Nat} {k:Nat} {l:List α} (h:∀ x∈l,f x<=k * g x):aW f l<=k * aW g l:=by
 induction l with
 | nil=>exact Nat.zero_le _
 | cons x l ih =>
  have h1:=h x mem_cons_self
  have h2:=ih fun y hy=>h y (mem_cons_of_mem _ hy)
  simp only [aW,Nat.mul_add];omega
theorem tt {α:Type} (f:α->Nat) (l:List α) (h:∀ x∈l,1<=f x):l.length<=aW f l:=by
 induction l with
 | nil=>exact Nat.zero_le _
 | cons x l ih =>
  have h1:=h x mem_cons_self
  have h2:=ih fun y hy=>h y (mem_cons_of_mem _ hy)
  rw [aW,length_cons];omega
theorem FK {α β:Type} (f:α->Nat) (g:β->Nat):∀ (a:List α) (b:List β),aW (fun x:α × β=>f x.1+g x.2) (a.zip b)<=aW f a+aW g b
 | [],b=>by simp [aW]
 | x::a,[]=>by simp [aW]
 | x::a,y::b=>by
  have:=FK f g a b;simp only [zip_cons_cons,aW] at *;omega
theorem vO {α:Type} (f:α->ae):∀ (l:List α) (acc:ae),(dd f acc l).length=acc.length+aW (fun x=>(f x).length) l
 | [],acc=>by simp [dd,aW]
 | x::l,acc=>by rw [dd,vO f l,length_append,aW];omega
def rS (n:Nd):Nat:=n.s.length+60
mutual
theorem Ul:∀ (t:T) (a:Nat),jx t=aW rS (lG a t)
 | .mk n l,a=>by rw [jx,lG,aW,yK l (a+1),rS]
theorem yK:∀ (l:List T) (a:Nat),fM l=aW rS (dX a l)
 | [],a=>rfl
 | t::r,a=>by rw [fM,dX,Ag,Ul t a,yK r (a+aB t)]
end
def wi (l:List T) (i:Nat):Nat:=match l[i]? with | some t=>jx t | none=>0
theorem XI (l:List T):wi l 0+wi l 1+wi l 2<=fM l:=by
 match l with
 | []=>simp [wi]
 | [a]=>simp only [wi,fM];simp
 | [a,b]=>simp only [wi,fM];simp
 | a::b::c::r=>simp only [wi,fM];simp;omega
theorem Ht {l:List T} {f:T->ae} (h:∀ t∈l,(f t).length<=jx t) (i:Nat):((l.map f).getD i []).length<=wi l i:=by
 rw [List.getD_eq_getElem?_getD,getElem?_map];unfold wi
 cases hi:l[i]? with
 | none=>simp
 | some t=>exact h t (mem_of_getElem? hi)
theorem Ip {l:List T} {t:T} (h:t∈l):aB t<=aw l:=by
 induction l with
 | nil=>cases h
 | cons a l ih =>
  rw [aw]
  rcases List.mem_cons.1 h with rfl | h
  ·omega
  ·have:=ih h;omega
theorem Il {f:T->ae}:∀ {l:List T},(∀ t∈l,(f t).length+4<=jx t)->jX (l.map f)<=fM l
 | [],_=>Nat.zero_le _
 | t::l,h=>by
  have h1:=h t mem_cons_self
  have h2:=Il (l:=l) fun y hy=>h y (mem_cons_of_mem _ hy)
  rw [List.map_cons,jX,fM];omega
theorem TZ:∀ (N:Nat) (t:T),aB t<=N->oH t->∀ d,(jJ cJ fu d t).length+4<=jx t/\(mG cJ fu d t).length<=jx t:=by
 intro N
 induction N with
 | zero=>intro t h;have:=gO t;omega
 | succ N ih =>
  intro t hN hn d;have b6:=eo t;rw [qy] at hn
  have hk:∀ a∈t.kids,∀ d,(jJ cJ fu d a).length+4<=jx a/\(mG cJ fu d a).length<=jx a:=fun a ha d=>ih a (by have:=Ip ha;omega) (jw hn.2 ha) d
  have hx:=Ht (l:=t.kids) (f:=cJ) (fun a ha=>by have:=vF (aB a) a (Nat.le_refl _) (jw hn.2 ha);omega);have hb:=Ht (l:=t.kids) (f:=mG cJ fu d) (fun a ha=>(hk a ha d).2);have h3:=XI t.kids;have hw:=oy t;have gw:=vF (aB t) t (Nat.le_refl _) ((qy t).2 hn);have x0:=hx 0;have x1:=hx 1;have b1:=hb 1;have b2:=hb 2;constructor
  ·rw [MH,G4];unfold wX;split
   ·simp only [length_append,length_cons,length_nil];omega
   split
   ·simp only [length_append,length_cons,length_nil];omega
   split
   ·simp only [length_append,length_cons,length_nil];omega
   split
   ·split
    ·simp only [length_append,length_cons,length_nil];omega
    ·simp only [length_append,length_cons,length_nil];omega
   split
   ·simp only [length_append,length_cons,length_nil];omega
   split
   ·simp only [length_append,length_cons,length_nil];omega
   split
   ·simp only [length_append,length_cons,length_nil];omega
   ·omega
  ·rw [Ks,Ij]
   have:=Il (f:=jJ cJ fu (d+1)) (l:=t.kids) fun a ha=>(hk a ha (d+1)).1
   have e:∀ l:List ae,(fu l d).length=3+jX l:=fun l=>by
    unfold fu;rw [length_append,sr];simp only [length_cons,length_nil];omega
   rw [e];omega
def wS (l:List ae):Nat:=aW (fun s=>s.length+1) l
def cj (p:Src):Nat:=wS p.globals+aW (fun a:Ar=>a.name.length+1) p.arrays+aW (fun f:Fn=>f.name.length+wS f.params+1) p.fns+aW (fun n:Nd=>n.s.length+n.kids.length+1) p.nodes
structure im (p:Src):Prop where
 arrays:∀ a∈p.arrays,-9223372036854775808<=a.size/\a.size<=9223372036854775807
 nodes:∀ n∈p.nodes,-9223372036854775808<=n.n/\n.n<=9223372036854775807
mutual
theorem df.num {nodes:List Nd} (h:∀ n∈nodes,-9223372036854775808<=n.n/\n.n<=9223372036854775807):∀ (t:T) (a:Nat),df nodes a t->oH t
 | .mk n l,a,hs=>by
  rw [df] at hs;rw [oH];exact ⟨h n (mem_of_getElem? hs.1),dh.num h l _ hs.2.2⟩
theorem dh.num {nodes:List Nd} (h:∀ n∈nodes,-9223372036854775808<=n.n/\n.n<=9223372036854775807):∀ (l:List T) (a:Nat),dh nodes a l->pJ l
 | [],a,_=>trivial
 | t::r,a,hs=>by
  rw [dh] at hs;rw [pJ];exact ⟨df.num h t a hs.1,dh.num h r _ hs.2⟩
end
theorem OU (l:List ae):(l.map fun y=>y.length+2).sum=aW (fun s=>s.length+2) l:=by
 induction l with
 | nil=>rfl
 | cons s l ih=>rw [List.map_cons,sum_cons,ih,aW]
theorem F2 (l:List T):fM l=aW jx l:=by
 induction l with
 | nil=>rfl
 | cons t l ih=>rw [fM,aW,ih]
theorem Q0 {p:Src} {l:List T} (hn:im p) (hs:dh p.nodes 0 l) (hz:aw l=p.nodes.length):(mA cJ fu p l).length<=100 * cj p:=by
 have ij:=dh.num hn.nodes l 0 hs
 have e1:aW (fun s=>(g1 s).length) p.globals<=100 * wS p.globals:=nw fun s _=>by simp only [g1,length_append,length_cons,length_nil];omega
 have e2:aW (fun a=>(a1 a).length) p.arrays<=100 * aW (fun a:Ar=>a.name.length+1) p.arrays:=nw fun a ha=>by
  have:=xH (hn.arrays a ha);simp only [a1,length_append,length_cons,length_nil];omega
 have e3:aW (fun x=>(f1 cJ fu x).length) (p.fns.zip l)<=aW (fun x:Fn × T=>(fun f:Fn=>100 * (f.name.length+wS f.params+1)) x.1+jx x.2) (p.fns.zip l):=RE fun x hx=>by
  have h1:=(TZ (aB x.2) x.2 (Nat.le_refl _) (jw ij (List.of_mem_zip hx).2) 0).2;have h2:=zX x.1.params;rw [OU] at h2
  have h3:aW (fun s=>s.length+2) x.1.params<=2 * wS x.1.params:=nw fun s _=>by omega
  simp only [f1,length_append,length_cons,length_nil];omega
 have e4:=FK (fun f:Fn=>100 * (f.name.length+wS f.params+1)) jx p.fns l
 have e5:aW (fun f:Fn=>100 * (f.name.length+wS f.params+1)) p.fns<=100 * aW (fun f:Fn=>f.name.length+wS f.params+1) p.fns:=nw fun f _=>Nat.le_refl _
 have e6:aW rS p.nodes<=100 * aW (fun n:Nd=>n.s.length+n.kids.length+1) p.nodes:=nw fun n _=>by unfold rS;omega
 have e7:aW jx l=aW rS p.nodes:=by rw [<-F2,yK l 0,<-dh.all hs hz]
 unfold mA cj;rw [vO,vO,vO];simp only [length_nil];have e8:=Nat.le_trans e3 e4;generalize aW (fun x=>(f1 cJ fu x).length) (p.fns.zip l)=v3 at *;generalize aW (fun s=>(g1 s).length) p.globals=v1 at *;generalize aW (fun a=>(a1 a).length) p.arrays=v2 at *;omega
theorem FV {p:Src} {l:List T} (hs:dh p.nodes 0 l) (hz:aw l=p.nodes.length):∀ t∈l,jx t<=100 * cj p/\aB t<=cj p:=fun t ht=>by
 have e6:aW rS p.nodes<=100 * aW (fun n:Nd=>n.s.length+n.kids.length+1) p.nodes:=nw fun n _=>by unfold rS;omega
 have e7:aW jx l=aW rS p.nodes:=by rw [<-F2,yK l 0,<-dh.all hs hz]
 have e8:=ny (f:=jx) ht;have e9:=Ip ht
 have VF:=tt (fun n:Nd=>n.s.length+n.kids.length+1) p.nodes fun n _=>by omega
 unfold cj;omega
theorem FY (l:List ae):l.length<=wS l:=tt _ l fun s _=>by omega
theorem MY {l:List ae} {s:ae} (h:s∈l):s.length+1<=wS l:=ny (f:=fun s:ae=>s.length+1) h
structure Small (p:Src) (n:Nat):Prop where
 globals:p.globals.length<=n/\∀ s∈p.globals,s.length<=n
 arrays:p.arrays.length<=n/\∀ a∈p.arrays,a.name.length<=n
 fns:p.fns.length<=n/\∀ f∈p.fns,f.name.length<=n/\f.params.length<=n/\∀ s∈f.params,s.length<=n
 nodes:p.nodes.length<=n/\∀ x∈p.nodes,x.s.length<=n/\x.kids.length<=n
theorem dZ (p:Src):Small p (cj p):=by
 have a1:=FY p.globals
 have a2:=tt (fun a:Ar=>a.name.length+1) p.arrays fun a _=>by omega
 have a3:=tt (fun f:Fn=>f.name.length+wS f.params+1) p.fns fun a _=>by omega
 have a4:=tt (fun n:Nd=>n.s.length+n.kids.length+1) p.nodes fun a _=>by omega
 unfold cj;refine ⟨⟨by omega,fun s hs=>?_⟩,⟨by omega,fun a ha=>?_⟩,⟨by omega,fun f hf=>?_⟩,⟨by omega,fun n hn=>?_⟩⟩
 ·have:=MY hs;omega
 ·have:=ny (f:=fun a:Ar=>a.name.length+1) ha;omega
 ·have:=ny (f:=fun f:Fn=>f.name.length+wS f.params+1) hf;refine ⟨by omega,by have:=FY f.params;omega,fun s hs=>by have:=MY hs;omega⟩
 ·have:=ny (f:=fun n:Nd=>n.s.length+n.kids.length+1) hn;exact ⟨by omega,by omega⟩
structure zA (st:PS) (n:Nat):Prop where
 globals:st.globals.length<=n
 arrays:st.arrays.length<=n
 fns:st.fns.length<=n
 params:∀ x∈st.fns,x.2.length<=n
theorem LU:∀ (f:Nat) (acc:List ae) (p:RS) (l:List ae) (q:RS),oq f acc p=some (l,q)->l.length<=acc.length+f
 | 0,_,_,_,_,h=>by cases h
 | f+1,acc,p,l,q,h=>by
  rw [oq] at h;split at h
  ·have:=LU f _ _ l q h;rw [length_append,length_cons,length_nil] at this;omega
  ·cases h;omega
theorem zA.up {st:PS} {n:Nat} (h:zA st n):zA st (n+1):=by
 obtain ⟨a,b,c,d⟩:=h;exact ⟨by omega,by omega,by omega,fun x hx=>by have:=d x hx;omega⟩
theorem UX {f n:Nat} {p q:RS} {st dN:PS} (hf:f<=n) (h:iW f p st=some (q,dN)) (hs:zA st n):zA dN (n+1):=by
 have key:=hs.up;obtain ⟨a,b,c,d⟩:=hs;unfold iW at h;split at h
 ·split at h
  ·split at h
   ·cases h;exact ⟨by simp;omega,by simp;omega,by simp;omega,fun x hx=>by have:=d x hx;omega⟩
   ·cases h;exact key
  ·cases h;exact ⟨by simp;omega,by simp;omega,by simp;omega,fun x hx=>by have:=d x hx;omega⟩
 ·split at h
  ·cases hm:oq f [] (want (bd p.next) [40]) with
   | none=>rw [hm] at h;cases h
   | some r =>
    obtain ⟨l,q1⟩:=r;rw [hm] at h;simp only at h;have hl:=LU _ _ _ _ _ hm;split at h
    ·split at h
     ·cases h
     ·cases h;refine ⟨by simp;omega,by simp;omega,by simp;omega,fun x hx=>?_⟩
      rcases List.mem_append.1 hx with hx | hx
      ·have:=d x hx;omega
      ·rw [mem_singleton] at hx;subst hx;simp at hl |-;omega
    ·cases h;exact key
  ·cases h;exact key
theorem LW {f:Nat}:∀ (G n:Nat) (p q:RS) (st dN:PS),f<=n->mM G f p st=some (q,dN)->zA st n->zA dN (n+G)
 | 0,n,p,q,st,dN,_,h,_=>by cases h
 | G+1,n,p,q,st,dN,hf,h,hs=>by
  rw [mM] at h;split at h
  ·cases hw:iW f p st with
   | none=>rw [hw] at h;cases h
   | some r =>
    obtain ⟨q1,s1⟩:=r;rw [hw] at h;simp only at h;have:=LW G (n+1) q1 q s1 dN (by omega) h (UX hf hw hs);rw [show n+(G+1)=n+1+G by omega];exact this
  ·cases h;obtain ⟨a,b,c,d⟩:=hs;exact ⟨by omega,by omega,by omega,fun x hx=>by have:=d x hx;omega⟩
mutual
theorem NK:∀ (t:T) (a:Nat),∀ n∈lG a t,n.kids.length<=aB t
 | .mk m l,a,n,h=>by
  rw [lG] at h;rw [aB]
  rcases List.mem_cons.1 h with rfl | h
  ·simp only [cQ];have:=cR l;omega
  ·have:=zI l (a+1) n h;omega
theorem zI:∀ (l:List T) (a:Nat),∀ n∈dX a l,n.kids.length<=aw l
 | [],a,n,h=>by rw [dX] at h;cases h
 | t::r,a,n,h=>by
  rw [dX] at h;rw [aw]
  rcases List.mem_append.1 h with h | h
  ·have:=NK t a n h;omega
  ·have:=zI r _ n h;omega
end
end Go.Im
namespace Go.Sp
open Go.Xp
structure DI (p:Src) (ls:List (List S)):Prop where
 len:ls.length=p.fns.length
 at_:∀ (i:Nat) f l,p.fns[i]?=some f->ls[i]?=some l->0<=f.body/\S.cI l=true/\wt (bB l)<=1000000000/\∃ t,sub p.nodes (fN p.nodes) f.body.toNat=some t/\er t=bB l
theorem Ri (a:E) (ho:a.ok=true):(a.txt).length+4<=wt a.tree:=(E.len a ho).1
theorem Qx {l:List S} (ho:S.cI l=true) (hw:wt (bB l)<=1000000000) :
  ∃ ts t q f,Go.Sp.iv (eQ E.txt l)=some ts/\(eQ E.txt l).length<=1000000000/\ts.length<=1000000000/\1+f<=1099511627776/\mS f (.block 1) ⟨ts,0,(eQ E.txt l).length,0,0⟩=some (t,q)/\q.l=ts/\((q.code=0/\q.i=ts.length/\ei l 1=true)\/(q.code≠0/\ei l 1=false)):=by
 have hlen:=rU E.txt Ri ho;generalize hx:eQ E.txt l=x at *;obtain ⟨ts,h1,h2⟩:=(HX ho).all;rw [hx] at h2;have h3:=h2.len;have CT:On ⟨ts,0,x.length,0,0⟩ ts:=⟨rfl,Nat.zero_le _,rfl,h2.kinds⟩;have bN:rs (x.length:Int) (l9 ts) (.block 1) ts≠.error aP:=vL;obtain ⟨t,q,h4,h5⟩:=(js (l9 ts)).block 1 ts _ CT bN;have S9:=DV (e:=(x.length:Int)) (d:=1) (rest:=[]) ho h1;rw [append_nil] at S9
 change iL _ q t (block (x.length:Int) 1 ts) at h5
 refine ⟨ts,t,q,KF (l9 ts),h2.all,by omega,by omega,by unfold KF l9;omega,h4 _ (Nat.le_refl _),?_⟩
 cases hf:ei l 1 with
 | true =>
  obtain ⟨t',_,h6⟩:=S9.1 hf;rw [h6] at h5;obtain ⟨_,h7,h8,_⟩:=h5;have h8:q.l=ts:=h8;refine ⟨h8,.inl ⟨h7.code,?_,rfl⟩⟩;have hr:=congrArg List.length h7.rest;have hle:=h7.le;rw [length_drop] at hr;rw [h8] at hr hle;simp only [length_nil] at hr;omega
 | false =>
  obtain ⟨pos,h6⟩:=S9.2 hf;rw [h6] at h5;exact ⟨h5.2.2.2.1,.inr ⟨bA.err h5,rfl⟩⟩
end Go.Sp
namespace Go.Im
open Go.Xp Go.Sp
def JM (p:Src) (x:ae):Bool:=match mC x (x.length+1) 0 [] with
 | none=>false
 | some (ts,c,z)=>if c≠0 then false else match mM (ts.length+1) (40 * ts.length+100) ⟨ts,0,(x.length:Int),0,0⟩ .empty with
  | none=>false
  | some (q,st)=>if q.code≠0 then false else if aw st.trees > 800 then false else same p st
def fI (p:Src):Bool:=if p.nodes.length > 800 then false else match iq p.nodes p.fns 0 [] with
 | none=>false
 | some (l,e)=>if e≠p.nodes.length then false else if l.all fQ=false then false else JM p (mA cJ fu p l)
theorem Aa {p:Src} {x:ae} {ts:List Tok} {c z:Int} {q:RS} {st:PS} (h:Reads x ts c z q st):JM p x=if c≠0 then false else if q.code≠0 then false else if aw st.trees > 800 then false else same p st:=by
 unfold JM;rw [h.lex];simp only;rw [h.read]
theorem WC {p:Src} {l:List T} {ls:List (List S)} (h:fK p l) (hf:Forms l ls):fI p=ls.all fun b=>ei b 1:=by
 unfold fI;have h8:=h.few;rw [if_neg (by omega),h.Av];simp only;rw [if_neg (by simp),if_neg (by rw [h.k];decide)];obtain ⟨ts,c,z,q,st,hr⟩:=reads (mA cJ fu p l);obtain ⟨h1,h2,h3⟩:=JX h hf hr;rw [Aa hr,if_neg (by simpa using h1)]
 cases hb:ls.all fun b=>ei b 1 with
 | false=>rw [if_pos (h3 hb)]
 | true =>
  obtain ⟨k1,k2,k3⟩:=h2 hb;rw [if_neg (by simpa using k1),if_neg (by omega),k3]
theorem qX {p:Src} (h:fI p=true):∃ l,fK p l:=by
 unfold fI at h
 by_cases h8:p.nodes.length > 800
 ·rw [if_pos h8] at h;cases h
 rw [if_neg h8] at h
 cases hb:iq p.nodes p.fns 0 [] with
 | none=>rw [hb] at h;cases h
 | some y =>
  obtain ⟨l,e⟩:=y;rw [hb] at h;simp only at h
  by_cases he:e=p.nodes.length
  ·subst he;rw [if_neg (by simp)] at h
   by_cases hk:l.all fQ=false
   ·rw [if_pos hk] at h;cases h
   rw [if_neg hk] at h;obtain ⟨ts,c,z,q,st,hr⟩:=reads (mA cJ fu p l);rw [Aa hr] at h;split at h
   ·cases h
   split at h
   ·cases h
   ·rename_i hc;split at h
    ·cases h
    ·exact ⟨l,JN (by omega) hb (hr.ok (by simpa using hc)).1 h⟩
  ·rw [if_pos he] at h;cases h
theorem WB {p:Src} (h:nN p=some false):fI p=false:=by
 cases hf:fI p with
 | false=>rfl
 | true =>
  obtain ⟨l,h1⟩:=qX hf;rw [h1.nN] at h;cases h
theorem dh.ix {nodes:List Nd}:∀ (l:List T) (a i:Nat) (t:T),dh nodes a l->l[i]?=some t->df nodes (a+aw (l.take i)) t
 | [],a,i,t,_,h=>by simp at h
 | u::r,a,0,t,h,hi=>by
  cases hi;rw [dh] at h;exact h.1
 | u::r,a,i+1,t,h,hi=>by
  rw [dh] at h;have:=dh.ix r (a+aB u) i t h.2 (by simpa using hi);rw [take_succ_cons,aw,<-Nat.add_assoc];exact this
mutual
theorem Nb:∀ t:T,wt t<=jx t
 | .mk n l=>by have:=F3 l;rw [wt,jx];omega
theorem F3:∀ l:List T,eC l<=fM l
 | []=>Nat.le_refl _
 | t::r=>by have:=Nb t;have:=F3 r;rw [eC,fM];omega
end
theorem Kw {p:Src} {l:List T} {ls:List (List S)} (h:fK p l) (hf:Forms l ls) (hw:cj p<=1048576):DI p ls:=by
 have hl:=fw.len h.fns;refine ⟨by rw [hf.len];omega,fun i f b h1 h2=>?_⟩;have hi:=(List.getElem?_eq_some_iff.1 h2).1;have hlen:=hf.len
 have ht:l[i]?=some (l[i]'(by omega)):=by simp [<-hlen,hi]
 obtain ⟨h3,h4⟩:=hf.at_ i _ b ht h2;obtain ⟨h5,h6⟩:=fw.at_ h.fns i f _ h1 ht;have h7:=dh.ix l 0 i _ h.st ht;rw [Nat.zero_add] at h5 h7;have hm:=mem_of_getElem? ht;have h8:=FV h.st h.len _ hm;have h9:=Nb (l[i]'(by omega));have kU:=df.le _ _ h7;refine ⟨by omega,h3,by rw [<-h4,Qn];omega,_,?_,h4⟩;rw [h5,Int.toNat_natCast];exact (vB _).1 _ _ h7 (by unfold fN;omega)
theorem nA {α:Type} (f:α->Nat) (l:List α) (k:Nat):aW f (l.take k)<=aW f l:=by
 have:aW f l=aW f (l.take k)+aW f (l.drop k):=by rw [<-Ag,take_append_drop]
 omega
structure ZI (p:Src) (i:Nat) (u:T) (a:E):Prop where
 ok:a.ok=true
 er:er u=a.tree
 sub:sub p.nodes (fN p.nodes) i=some u
 tr:∃ e,nU p.nodes (p.nodes.length - i+1) i=some (u,e)
 k:fQ u=true
 num:oH u
 wt:jx u<=100 * cj p
 txt:cJ u=a.txt
end Go.Im
namespace Go.Im
open Go.Xp Go.Sp
end Go.Im
namespace Go.Im
open Go.Xp Go.Sp
def rM (w left:Nat):Int:=if w<=left then ((left - w:Nat):Int) else -1
theorem eU {w left:Nat} (h:w<=left):rM w left=((left - w:Nat):Int):=by unfold rM;rw [if_pos h]
theorem c7 {w left:Nat} (h:left < w):rM w left = -1:=by unfold rM;rw [if_neg (by omega)]
theorem nz {α:Type} (w:α->Nat) (l:List α):aW (fun x=>w x+1) l=l.length+aW w l:=by
 induction l with
 | nil=>rfl
 | cons x l ih=>rw [aW,ih,aW,length_cons];omega
theorem kB {α:Type} {w:α->Nat} {l:List α} {k:Nat} {x:α} (h:l[k]?=some x):aW w (l.take (k+1))=aW w (l.take k)+w x:=by
 have:l.take (k+1)=l.take k++[x]:=by rw [List.take_add_one,h];rfl
 rw [this,Ag,aW,aW];rfl
theorem kM {α β:Type} {f:α->β} {l:List α} {k:Nat} {x:α} {Z:β} (h:l[k]?=some x):((l.take k).map f++List.replicate (l.length - k) Z).set k (f x)=(l.take (k+1)).map f++List.replicate (l.length - (k+1)) Z:=by
 have hk:=(List.getElem?_eq_some_iff.1 h).1
 have ht:l.take (k+1)=l.take k++[x]:=by rw [List.take_add_one,h];rfl
 have hl:((l.take k).map f).length=k:=by rw [length_map,length_take];omega
 rw [show l.length - k=(l.length - (k+1))+1 by omega,List.replicate_succ,List.set_append_right _ _ (by omega),hl,Nat.sub_self,List.set_cons_zero,ht,List.map_append];simp
theorem kL {α β:Type} {f:α->β} {l:List α} {k:Nat} {Z:β} (h:k<=l.length):((l.take k).map f++List.replicate (l.length - k) Z).length=l.length:=by
 rw [length_append,length_map,length_take,List.length_replicate];omega
theorem kK {α β:Type} {f:α->β} {l:List α} {Z:β}:(l.take l.length).map f++List.replicate (l.length - l.length) Z=l.map f:=by
 rw [List.take_length,Nat.sub_self];simp
end Go.Im
namespace Go.Im
open Go.Xp Go.Sp
end Go.Im
namespace Go.Im
open Go.Xp Go.Sp
theorem CD {p:Src} {l:List T} (h:fK p l):∀ a∈p.arrays,0<=a.size/\a.size<=2147483647:=fun a ha=>by
 have:=List.all_eq_true.1 h.arrays a ha;unfold nX at this;simp only [Bool.and_eq_true,Bool.not_eq_true',decide_eq_false_iff_not] at this;omega
end Go.Im
namespace Go.Im
open Go.Xp Go.Sp
end Go.Im
namespace Go.Im
open Go.Xp Go.Sp
end Go.Im
