/- Part 2 of proofs that are told in their last texts. -/
import Derived.Test.YtcoplmnahnipiaaGreatDoorQ1
open List (all_cons all_eq_true any_eq_true append_assoc append_nil cons_append contains_iff_mem drop_left eq_nil_of_length_eq_zero find?_eq_none flatMap_cons foldl_cons getElem?_map getElem?_take length_append length_cons length_drop length_map length_nil length_take map_map mem_cons_of_mem mem_cons_self mem_of_getElem? mem_singleton nil_append sum_cons tail_cons take_append_drop take_succ_cons take_zero zip_cons_cons)
set_option linter.unusedVariables false
set_option linter.unusedSimpArgs false
set_option maxRecDepth 100000
namespace Go.Xp
open Go.Sp (bp eA)
section
variable {e:Int} {d:Nat} {ts rest:List Tok} {Q:T->Prop} {b:Bool}
theorem S.head {s:S} (ho:s.ok=true) (ht:ts.map kf=s.tk):∃ t r,ts=t::r/\∀ rest,sign (t::rest) 0≠ed/\sign (t::rest) 0≠[125]:=by
 cases s with
 | set s a =>
  rw [S.tk] at ht;obtain ⟨t,r,rfl,h1,_⟩:=map_cons ht;obtain ⟨h1,_⟩:=pW h1;exact ⟨t,r,rfl,fun rest=>⟨iv h1 au,iv h1 au⟩⟩
 | put s a b =>
  rw [S.tk] at ht;obtain ⟨t,r,rfl,h1,_⟩:=map_cons ht;obtain ⟨h1,_⟩:=pW h1;exact ⟨t,r,rfl,fun rest=>⟨iv h1 au,iv h1 au⟩⟩
 | if1 c b =>
  rw [S.tk] at ht;obtain ⟨t,r,rfl,h1,_⟩:=map_cons ht;exact ⟨t,r,rfl,fun rest=>by rw [sH h1];decide⟩
 | if2 c b b2 =>
  rw [S.tk] at ht;obtain ⟨t,r,rfl,h1,_⟩:=map_cons ht;exact ⟨t,r,rfl,fun rest=>by rw [sH h1];decide⟩
 | while_ c b =>
  rw [S.tk] at ht;obtain ⟨t,r,rfl,h1,_⟩:=map_cons ht;exact ⟨t,r,rfl,fun rest=>by rw [sH h1];decide⟩
 | ret a =>
  rw [S.tk] at ht;obtain ⟨t,r,rfl,h1,_⟩:=map_cons ht;exact ⟨t,r,rfl,fun rest=>by rw [sH h1];decide⟩
 | var s a =>
  rw [S.tk] at ht;obtain ⟨t,r,rfl,h1,_⟩:=map_cons ht;exact ⟨t,r,rfl,fun rest=>by rw [sH h1];decide⟩
 | do_ a =>
  simp only [S.ok] at ho;obtain ⟨k0,r0,hh,hf⟩:=E.head a ho;rw [S.tk,hh] at ht;obtain ⟨t,r,rfl,h1,_⟩:=map_cons ht;refine ⟨t,r,rfl,fun rest=>?_⟩
  rcases zO (r:=rest) (by rw [h1];exact hf) with h | h | h | h | h <;> (rw [h];decide)
def re (l:List S):Prop:=∀ (e:Int) (d:Nat) (acc:List T) (ts rest:List Tok) (u:Tok),S.cM l=true->ts.map kf=S.mG l->u.kind=3->u.s=[125] ->
 (S.fits l d=true->∃ ys,aM ys=S.trees l/\Eb e d acc (ts++u::rest) (.ok (acc++ys,rest)))/\(S.fits l d=false->∃ pos,Eb e d acc (ts++u::rest) (.error (9,pos)))
theorem LW:re []:=by
 intro e d acc ts rest u _ ht hu fx
 have:ts=[]:=by simpa [S.mG] using ht
 subst this;refine ⟨fun _=>⟨[],rfl,1,fun f hf=>?_⟩,fun h=>by simp [S.fits] at h⟩;obtain ⟨f,rfl⟩:∃ g,f=g+1:=⟨f - 1,by omega⟩;rw [rs.body,if_pos (by exact tE hu fx),append_nil];rfl
theorem JF {a:S} {l:List S} (Ca:rf a) (Cl:re l):re (a::l):=by
 intro e d acc ts rest u ho ht hu fx;simp only [S.cM,Bool.and_eq_true] at ho;rw [S.mG] at ht;obtain ⟨A,B,rfl,h3,h4⟩:=db ht;obtain ⟨t,r,rfl,hh⟩:=S.head ho.1 h3
 have bP:sign (B++u::rest) 0≠ed:=by
  cases l with
  | nil =>
   have:B=[]:=by simpa [S.mG] using h4
   subst this;rw [nil_append,tE hu fx];decide
  | cons a' l' =>
   simp only [S.cM,Bool.and_eq_true] at ho;rw [S.mG] at h4;obtain ⟨A',B',rfl,h5,h6⟩:=db h4;obtain ⟨t',r',rfl,hh'⟩:=S.head ho.2.1 h5;exact (hh' _).1
 have hx:=Ca e d (t::r) (B++u::rest) ho.1 h3 bP
 have he:t::r++B++u::rest=t::r++(B++u::rest):=by simp
 have hs:sign (t::r++(B++u::rest)) 0≠[125]:=(hh _).2;rw [he,S.fits]
 cases hfa:a.fit d with
 | false =>
  refine ⟨fun hb=>(by simp at hb),fun _=>?_⟩;obtain ⟨pos,f0,h0⟩:=hx.2 hfa;refine ⟨pos,f0+1,fun f hf=>?_⟩;obtain ⟨f,rfl⟩:∃ g,f=g+1:=⟨f - 1,by omega⟩;rw [rs.body,if_neg hs,h0 f ao]
 | true =>
  obtain ⟨ta,k1,f0,h0⟩:=hx.1 hfa;have hl:=Cl e d (acc++[ta]) B rest u ho.2 h4 hu fx;refine ⟨fun hb=>?_,fun hb=>?_⟩
  ·obtain ⟨ys,k3,f1,k4⟩:=hl.1 (by simpa using hb);refine ⟨ta::ys,by rw [aM,k1,k3,S.trees],f0+f1+1,fun f hf=>?_⟩;obtain ⟨f,rfl⟩:∃ g,f=g+1:=⟨f - 1,by omega⟩;rw [rs.body,if_neg hs,h0 f ao];simp only;rw [k4 f ao,append_assoc];rfl
  ·obtain ⟨pos,f1,k3⟩:=hl.2 (by simpa using hb);refine ⟨pos,f0+f1+1,fun f hf=>?_⟩;obtain ⟨f,rfl⟩:∃ g,f=g+1:=⟨f - 1,by omega⟩;rw [rs.body,if_neg hs,h0 f ao];exact k3 f ao
theorem re.blk {l:List S} (C:re l) {A:List Tok} {u w:Tok} (ho:S.cM l=true) (ht:A.map kf=S.mG l) (hu:u.kind=3) (fx:u.s=[123]) (hw:w.kind=3) (De:w.s=[125]) :
  Sx e (.block d) (u::(A++w::rest)) rest (fun t=>er t=.mk ⟨14,0,0,[],[]⟩ (S.trees l)) (decide (d<=60)&&S.fits l (d+1)):=by
 have hb:=C e (d+1) [] A rest w ho ht hw De
 by_cases hd:d<=60
 ·have:(decide (d<=60)&&S.fits l (d+1))=S.fits l (d+1):=by simp [hd]
  rw [this];refine ⟨fun h=>?_,fun h=>?_⟩
  ·obtain ⟨ys,k1,f0,h0⟩:=hb.1 h;refine ⟨one 14 u.at_ [] ys,by show er _=_;rw [dD,k1],f0+1,fun f hf=>?_⟩;obtain ⟨f,rfl⟩:∃ g,f=g+1:=⟨f - 1,by omega⟩;rw [rs,if_neg ao,qO hu fx];simp only;rw [h0 f ao];rfl
  ·obtain ⟨pos,f0,h0⟩:=hb.2 h;refine ⟨pos,f0+1,fun f hf=>?_⟩;obtain ⟨f,rfl⟩:∃ g,f=g+1:=⟨f - 1,by omega⟩;rw [rs,if_neg ao,qO hu fx];simp only;rw [h0 f ao]
 ·have:(decide (d<=60)&&S.fits l (d+1))=false:=by simp [hd]
  rw [this];exact ⟨fun hb=>(by cases hb),fun _=>⟨_,r8 fun f=>by rw [rs,if_pos ao]⟩⟩
theorem xr {j:qA} {x:Rd T} {iH:List Tok} {j':qA} {x':Rd T} (h:Es e j ts x) (hs:∀ f,rs e f j ts=x->rs e (f+1) j' iH=x'):Es e j' iH x':=by
 obtain ⟨f0,h0⟩:=h;refine ⟨f0+1,fun f hf=>?_⟩;obtain ⟨f,rfl⟩:∃ g,f=g+1:=⟨f - 1,by omega⟩;exact hs f (h0 f ao)
theorem H5 {j j2:qA} {x x2:Rd T} {iH vK:List Tok} {j':qA} {x':Rd T} (h:Es e j ts x) (h2:Es e j2 vK x2) (hs:∀ f,rs e f j ts=x->rs e f j2 vK=x2->rs e (f+1) j' iH=x'):Es e j' iH x':=by
 obtain ⟨f0,h0⟩:=h;obtain ⟨f1,h1⟩:=h2;refine ⟨f0+f1+1,fun f hf=>?_⟩;obtain ⟨f,rfl⟩:∃ g,f=g+1:=⟨f - 1,by omega⟩;exact hs f (h0 f ao) (h1 f ao)
theorem OY (c:E) {l:List S} (C:re l):rf (.if1 c l):=by
 intro e d ts rest ho ht eX;simp only [S.ok,Bool.and_eq_true] at ho;rw [S.tk] at ht;obtain ⟨v,r,rfl,h1,h2⟩:=map_cons ht;obtain ⟨u,r,rfl,h3,h4⟩:=map_cons h2;obtain ⟨A,r,rfl,h5,h6⟩:=db h4;obtain ⟨w,r,rfl,h7,h8⟩:=map_cons h6;obtain ⟨x,r,rfl,h9,kZ⟩:=map_cons h8;obtain ⟨B,r,rfl,oC,n9⟩:=db kZ;obtain ⟨y,rfl,eH⟩:=gQ n9;obtain ⟨h1,cH⟩:=dR h1;obtain ⟨h3,jX⟩:=dR h3;obtain ⟨h7,ku⟩:=dR h7;obtain ⟨h9,C4⟩:=dR h9;obtain ⟨eH,zU⟩:=dR eH
 have he:v::u::(A++w::x::(B++[y]))++rest=v::u::(A++w::(x::(B++y::rest))):=by simp
 have hi:=vk (e:=e) (d:=d+1) (rest:=x::(B++y::rest)) ho.1 h5 h3 jX h7 ku (by simp);have hb:=C.blk (e:=e) (d:=d+1) (rest:=rest) ho.2 oC h9 C4 eH zU;have hv:=tE (rest:=u::(A++w::(x::(B++y::rest)))) h1 cH;rw [he,S.fit]
 refine pF fun hd=>?_
 cases hfa:pM c (d+1) with
 | false =>
  refine ⟨fun hb=>(by simp at hb),fun _=>?_⟩;obtain ⟨pos,k1⟩:=hi.2 hfa;refine ⟨pos,r8 fun f=>?_⟩;rw [rs,if_neg ao];simp only;rw [if_neg (by rw [hv];decide),if_pos (.inl hv),tail_cons,k1]
 | true =>
  obtain ⟨tc,k1,k2⟩:=hi.1 hfa;rw [Bool.true_and];refine ⟨fun h=>?_,fun h=>?_⟩
  ·obtain ⟨tb,k3,k4⟩:=hb.1 h;refine ⟨one 9 v.at_ [] [tc,tb],by show er _=_;rw [dD,aM,aM,k1,k3,S.tree];rfl,xr k4 fun f k4=>?_⟩;rw [rs,if_neg ao];simp only;rw [if_neg (by rw [hv];decide),if_pos (.inl hv),tail_cons,k2];simp only;rw [k4];simp only;rw [if_pos hv,if_neg eX];rfl
  ·obtain ⟨pos,k3⟩:=hb.2 h;refine ⟨pos,xr k3 fun f k3=>?_⟩;rw [rs,if_neg ao];simp only;rw [if_neg (by rw [hv];decide),if_pos (.inl hv),tail_cons,k2];simp only;rw [k3]
theorem JH (c:E) {l:List S} (C:re l):rf (.while_ c l):=by
 intro e d ts rest ho ht eX;simp only [S.ok,Bool.and_eq_true] at ho;rw [S.tk] at ht;obtain ⟨v,r,rfl,h1,h2⟩:=map_cons ht;obtain ⟨u,r,rfl,h3,h4⟩:=map_cons h2;obtain ⟨A,r,rfl,h5,h6⟩:=db h4;obtain ⟨w,r,rfl,h7,h8⟩:=map_cons h6;obtain ⟨x,r,rfl,h9,kZ⟩:=map_cons h8;obtain ⟨B,r,rfl,oC,n9⟩:=db kZ;obtain ⟨y,rfl,eH⟩:=gQ n9;obtain ⟨h1,cH⟩:=dR h1;obtain ⟨h3,jX⟩:=dR h3;obtain ⟨h7,ku⟩:=dR h7;obtain ⟨h9,C4⟩:=dR h9;obtain ⟨eH,zU⟩:=dR eH
 have he:v::u::(A++w::x::(B++[y]))++rest=v::u::(A++w::(x::(B++y::rest))):=by simp
 have hi:=vk (e:=e) (d:=d+1) (rest:=x::(B++y::rest)) ho.1 h5 h3 jX h7 ku (by simp);have hb:=C.blk (e:=e) (d:=d+1) (rest:=rest) ho.2 oC h9 C4 eH zU;have hv:=tE (rest:=u::(A++w::(x::(B++y::rest)))) h1 cH;rw [he,S.fit]
 refine pF fun hd=>?_
 cases hfa:pM c (d+1) with
 | false =>
  refine ⟨fun hb=>(by simp at hb),fun _=>?_⟩;obtain ⟨pos,k1⟩:=hi.2 hfa;refine ⟨pos,r8 fun f=>?_⟩;rw [rs,if_neg ao];simp only;rw [if_neg (by rw [hv];decide),if_pos (.inr hv),tail_cons,k1]
 | true =>
  obtain ⟨tc,k1,k2⟩:=hi.1 hfa;rw [Bool.true_and];refine ⟨fun h=>?_,fun h=>?_⟩
  ·obtain ⟨tb,k3,k4⟩:=hb.1 h;refine ⟨one 10 v.at_ [] [tc,tb],by show er _=_;rw [dD,aM,aM,k1,k3,S.tree];rfl,xr k4 fun f k4=>?_⟩;rw [rs,if_neg ao];simp only;rw [if_neg (by rw [hv];decide),if_pos (.inr hv),tail_cons,k2];simp only;rw [k4];simp only;rw [if_neg (by rw [hv];decide)];rfl
  ·obtain ⟨pos,k3⟩:=hb.2 h;refine ⟨pos,xr k3 fun f k3=>?_⟩;rw [rs,if_neg ao];simp only;rw [if_neg (by rw [hv];decide),if_pos (.inr hv),tail_cons,k2];simp only;rw [k3]
theorem OZ (c:E) {l l2:List S} (C:re l) (C2:re l2):rf (.if2 c l l2):=by
 intro e d ts rest ho ht eX;simp only [S.ok,Bool.and_eq_true] at ho;rw [S.tk] at ht;obtain ⟨v,r,rfl,h1,h2⟩:=map_cons ht;obtain ⟨u,r,rfl,h3,h4⟩:=map_cons h2;obtain ⟨A,r,rfl,h5,h6⟩:=db h4;obtain ⟨w,r,rfl,h7,h8⟩:=map_cons h6;obtain ⟨x,r,rfl,h9,kZ⟩:=map_cons h8;obtain ⟨B,r,rfl,oC,n9⟩:=db kZ;obtain ⟨y,r,rfl,eH,AO⟩:=map_cons n9;obtain ⟨z,r,rfl,Ui,h16⟩:=map_cons AO;obtain ⟨x2,r,rfl,Uj,h18⟩:=map_cons h16;obtain ⟨B2,r,rfl,h19,h20⟩:=db h18;obtain ⟨y2,rfl,Ij⟩:=gQ h20;obtain ⟨h1,cH⟩:=dR h1;obtain ⟨h3,jX⟩:=dR h3;obtain ⟨h7,ku⟩:=dR h7;obtain ⟨h9,C4⟩:=dR h9;obtain ⟨eH,zU⟩:=dR eH;obtain ⟨Ui,YV⟩:=dR Ui;obtain ⟨Uj,YW⟩:=dR Uj;obtain ⟨Ij,YX⟩:=dR Ij
 have he:v::u::(A++w::x::(B++y::z::x2::(B2++[y2])))++rest=v::u::(A++w::(x::(B++y::(z::(x2::(B2++y2::rest)))))):=by simp
 have hi:=vk (e:=e) (d:=d+1) (rest:=x::(B++y::(z::(x2::(B2++y2::rest))))) ho.1 h5 h3 jX h7 ku (by simp);have hb:=C.blk (e:=e) (d:=d+1) (rest:=z::(x2::(B2++y2::rest))) ho.2.1 oC h9 C4 eH zU;have eI:=C2.blk (e:=e) (d:=d+1) (rest:=rest) ho.2.2 h19 Uj YW Ij YX;have hv:=tE (rest:=u::(A++w::(x::(B++y::(z::(x2::(B2++y2::rest))))))) h1 cH;have hz:=tE (rest:=x2::(B2++y2::rest)) Ui YV;rw [he,S.fit]
 refine pF fun hd=>?_
 cases hfa:pM c (d+1) with
 | false =>
  refine ⟨fun hb=>(by simp at hb),fun _=>?_⟩;obtain ⟨pos,k1⟩:=hi.2 hfa;refine ⟨pos,r8 fun f=>?_⟩;rw [rs,if_neg ao];simp only;rw [if_neg (by rw [hv];decide),if_pos (.inl hv),tail_cons,k1]
 | true =>
  obtain ⟨tc,k1,k2⟩:=hi.1 hfa;rw [Bool.true_and]
  cases hfb:(decide (d+1<=60)&&S.fits l (d+2)) with
  | false =>
   refine ⟨fun hb=>(by simp at hb),fun _=>?_⟩;obtain ⟨pos,k3⟩:=hb.2 hfb;refine ⟨pos,xr k3 fun f k3=>?_⟩;rw [rs,if_neg ao];simp only;rw [if_neg (by rw [hv];decide),if_pos (.inl hv),tail_cons,k2];simp only;rw [k3]
  | true =>
   obtain ⟨tb,k3,k4⟩:=hb.1 hfb;rw [Bool.true_and];refine ⟨fun h=>?_,fun h=>?_⟩
   ·obtain ⟨tb2,k5,k6⟩:=eI.1 h;refine ⟨one 9 v.at_ [] [tc,tb,tb2],by show er _=_;rw [dD,aM,aM,aM,k1,k3,k5,S.tree];rfl,H5 k4 k6 fun f k4 k6=>?_⟩;rw [rs,if_neg ao];simp only;rw [if_neg (by rw [hv];decide),if_pos (.inl hv),tail_cons,k2];simp only;rw [k4];simp only;rw [if_pos hv,if_pos hz,tail_cons,k6];rfl
   ·obtain ⟨pos,k5⟩:=eI.2 h;refine ⟨pos,H5 k4 k5 fun f k4 k5=>?_⟩;rw [rs,if_neg ao];simp only;rw [if_neg (by rw [hv];decide),if_pos (.inl hv),tail_cons,k2];simp only;rw [k4];simp only;rw [if_pos hv,if_pos hz,tail_cons,k5]
end
mutual
theorem coreS:∀ (s:S),rf s
 | .set s a=>O3 s a
 | .put s a b=>O1 s a b
 | .if1 c b=>OY c (ym b)
 | .if2 c b b2=>OZ c (ym b) (ym b2)
 | .while_ c b=>JH c (ym b)
 | .ret a=>O2 a
 | .do_ a=>Se a
 | .var s a=>O4 s a
theorem ym:∀ (l:List S),re l
 | []=>LW
 | a::l=>JF (coreS a) (ym l)
end
def Jz (l:List S):List K:=kS [123]::(S.mG l++[kS [125]])
def bF (l:List S):T:=.mk ⟨14,0,0,[],[]⟩ (S.trees l)
def eu (l:List S) (d:Nat):Bool:=decide (d<=60)&&S.fits l (d+1)
theorem Xn (e:Int):∀ f,(∀ j ts,rs e f j ts=.error aW\/rs e (f+1) j ts=rs e f j ts)/\(∀ d acc ts,rs.body e f d acc ts=.error aW\/rs.body e (f+1) d acc ts=rs.body e f d acc ts):=by
 intro f
 induction f with
 | zero=>exact ⟨fun j ts=>.inl (by simp [rs]),fun d acc ts=>.inl (by simp [rs.body])⟩
 | succ f ih =>
  obtain ⟨i1,i2⟩:=ih;refine ⟨fun j ts=>?_,fun d acc ts=>?_⟩
  ·cases j with
   | block d =>
    rw [rs,rs];split
    ·exact .inr rfl
    ·cases aL e [123] ts with
     | error x=>exact .inr rfl
     | ok r =>
      simp only
      rcases i2 (d+1) [] r with h | h
      ·left;rw [h]
      ·rw [h];exact .inr rfl
   | stmt d =>
    rw [rs,rs];split
    ·exact .inr rfl
    ·simp only;split
     ·exact .inr rfl
     ·split
      ·cases inner e (d+1) [40] [41] ts.tail with
       | error x=>exact .inr rfl
       | ok y =>
        obtain ⟨c,r⟩:=y;simp only
        rcases i1 (.block (d+1)) r with h | h
        ·left;rw [h]
        ·rw [h]
         cases rs e f (.block (d+1)) r with
         | error x=>exact .inr rfl
         | ok y =>
          obtain ⟨b,r⟩:=y;simp only;split
          ·split
           ·rcases i1 (.block (d+1)) r.tail with h | h
            ·left;rw [h]
            ·rw [h];exact .inr rfl
           ·exact .inr rfl
          ·exact .inr rfl
      ·exact .inr rfl
  ·rw [rs.body,rs.body];split
   ·exact .inr rfl
   ·rcases i1 (.stmt d) ts with h | h
    ·left;rw [h]
    ·rw [h]
     cases rs e f (.stmt d) ts with
     | error x=>exact .inr rfl
     | ok y=>exact i2 _ _ _
theorem S8 {e:Int} {f f':Nat} {j:qA} {ts:List Tok} (h:rs e f j ts≠.error aW) (hf:f<=f'):rs e f' j ts=rs e f j ts:=by
 obtain ⟨k,rfl⟩:=Nat.exists_eq_add_of_le hf;clear hf
 induction k with
 | zero=>rfl
 | succ k ih =>
  rcases (Xn e (f+k)).1 j ts with h1 | h1
  ·rw [ih] at h1;exact absurd h1 h
  ·rw [<-Nat.add_assoc,h1,ih]
theorem Eu {l:List S} {e:Int} {d:Nat} {ts rest:List Tok} (ho:S.cM l=true) (ht:ts.map kf=Jz l) :
  (eu l d=true->∃ t,er t=bF l/\block e d (ts++rest)=.ok (t,rest))/\(eu l d=false->∃ pos,block e d (ts++rest)=.error (9,pos)):=by
 obtain ⟨u,r,rfl,h1,h2⟩:=map_cons ht;obtain ⟨A,r,rfl,h3,h4⟩:=db h2;obtain ⟨w,rfl,h5⟩:=gQ h4;obtain ⟨h1,cH⟩:=dR h1;obtain ⟨h5,QZ⟩:=dR h5;have hb:=(ym l).blk (e:=e) (d:=d) (rest:=rest) ho h3 h1 cH h5 QZ
 have he:u::(A++[w])++rest=u::(A++w::rest):=by simp
 rw [he]
 have key:∀ {x:Rd T},Es e (.block d) (u::(A++w::rest)) x->block e d (u::(A++w::rest))=x:=by
  rintro x ⟨f0,h0⟩;have bP:rs e (mo (u::(A++w::rest))) (.block d) (u::(A++w::rest))≠.error aW:=vP;have:=S8 bP (Nat.le_add_left _ f0);rw [h0 _ ao] at this;exact this.symm
 exact ⟨fun h=>by obtain ⟨t,k1,k2⟩:=hb.1 h;exact ⟨t,k1,key k2⟩,fun h=>by obtain ⟨pos,k1⟩:=hb.2 h;exact ⟨pos,key k1⟩⟩
end Go.Xp
namespace Go.Xp
open Go.Sp (bp eA c7 bW bN own mA fY bj)
def yT (n:Int):Int:=if n % 4294967296 > 2147483647 then n % 4294967296 - 4294967296 else n % 4294967296
def cB (n:Nat):ah:=if h:n < 10 then [UInt8.ofNat (48+n)] else cB (n / 10)++[UInt8.ofNat (48+n % 10)]
termination_by n
decreasing_by omega
theorem oV (n:Nat):(cB n).length<=n+1:=by
 induction n using Nat.strongRecOn with
 | _ n ih =>
 unfold cB
 by_cases h:n < 10
 ·rw [dif_pos h];simp
 ·rw [dif_neg h,length_append];have:=ih (n / 10) ao;simp;omega
def bC:List ah->ah
 | []=>[]
 | x::r=>x++r.flatMap fun y=>44::32::y
theorem Bd {l:List ah} (h:l≠[]) (x:ah):bC (l++[x])=(bC l++[44,32])++x:=by
 cases l with
 | nil=>exact absurd rfl h
 | cons a l=>simp [bC,List.flatMap_append]
theorem wj (l:List ah) (k:Nat):(bC (l.take k)).length<=(bC l).length:=by
 cases l with
 | nil=>simp
 | cons a l =>
  cases k with
  | zero=>simp [bC]
  | succ k =>
   simp only [take_succ_cons,bC,length_append]
   have:∀ (l:List ah) (k:Nat),((l.take k).flatMap fun y=>(44:UInt8)::32::y).length<=(l.flatMap fun y=>(44:UInt8)::32::y).length:=by
    intro l
    induction l with
    | nil=>intro k;simp
    | cons b l ih=>intro k;cases k with
     | zero=>simp
     | succ k=>simp only [take_succ_cons,flatMap_cons,length_append];have:=ih k;omega
   have:=this l k;omega
def qn (lv k:Nat) (x:ah):ah:=if lv < k then (40::x)++[41] else x
mutual
def E.txt:E->ah
 | .num n=>cB n.toNat
 | .name s=>s
 | .at_ s a=>((s++[91])++a.txt)++[93]
 | .call s l=>((s++[40])++bC (E.cL l))++[41]
 | .un s a=>(s++[32])++qn a.lv 9 a.txt
 | .bin s a b=>(((qn a.lv (dM s) a.txt++[32])++s)++[32])++qn b.lv (dM s+1) b.txt
def E.cL:List E->List ah
 | []=>[]
 | a::l=>a.txt::E.cL l
end
mutual
def E.full:E->ah
 | .num n=>cB n.toNat
 | .name s=>s
 | .at_ s a=>((s++[91])++a.full)++[93]
 | .call s l=>((s++[40])++bC (E.sn l))++[41]
 | .un s a=>((40::s)++a.full)++[41]
 | .bin s a b=>(((((40::a.full)++[32])++s)++[32])++b.full)++[41]
def E.sn:List E->List ah
 | []=>[]
 | a::l=>a.full::E.sn l
end
theorem E.Qz (l:List E):E.cL l=l.map E.txt:=by
 induction l with
 | nil=>rfl
 | cons a l ih=>rw [E.cL,ih];rfl
theorem E.Mw (l:List E):E.sn l=l.map E.full:=by
 induction l with
 | nil=>rfl
 | cons a l ih=>rw [E.sn,ih];rfl
def E.out (least:Bool) (a:E):ah:=if least then a.txt else a.full
mutual
def S.txt (x:E->ah):S->ah
 | .set s a=>((s++[32,61,32])++x a)++[59]
 | .put s a b=>((((s++[91])++x a)++[93,32,61,32])++x b)++[59]
 | .if1 c b=>(([105,102,32,40]++x c)++[41,32])++(S.cL x [123,32] b++[125])
 | .if2 c b b2=>(((([105,102,32,40]++x c)++[41,32])++(S.cL x [123,32] b++[125]))++[32,101,108,115,101,32])++(S.cL x [123,32] b2++[125])
 | .while_ c b=>(([119,104,105,108,101,32,40]++x c)++[41,32])++(S.cL x [123,32] b++[125])
 | .ret a=>([114,101,116,117,114,110,32]++x a)++[59]
 | .do_ a=>x a++[59]
 | .var s a=>((([118,97,114,32]++s)++[32,61,32])++x a)++[59]
def S.cL (x:E->ah):ah->List S->ah
 | acc,[]=>acc
 | acc,a::l=>S.cL x ((acc++a.txt x)++[32]) l
end
def eV (x:E->ah) (l:List S):ah:=S.cL x [123,32] l++[125]
theorem HH (n:Nd) (l:List T):c7 (.mk n l)=(bW l&&bN (.mk n l)):=by rw [c7]
theorem tP {l:List T} (h:bW l=true) {t:T} (ht:t∈l):c7 t=true:=by
 induction l with
 | nil=>cases ht
 | cons a l ih =>
  rw [bW,Bool.and_eq_true] at h
  rcases List.mem_cons.1 ht with rfl | ht
  ·exact h.1
  ·exact ih h.2 ht
theorem lY (n:Nd) (l:List T):er (.mk n l)=.mk ⟨n.kind,0,n.n,n.s,[]⟩ (aM l):=by rw [er]
theorem im {l:List T} {m i:Nat} (h:bj m i l=true):∀ (j:Nat) t,l[j]?=some t->(if i+j < m then mA t.n.kind else t.n.kind==14)=true:=by
 induction l generalizing i with
 | nil=>intro j t h;simp at h
 | cons a l ih =>
  rw [bj,Bool.and_eq_true] at h;intro j t hj
  cases j with
  | zero=>cases hj;exact h.1
  | succ j=>have:=ih h.2 j t (by simpa using hj);rw [show i+(j+1)=i+1+j by omega];exact this
theorem EJ:∀ (l:List T),(∀ t∈l,∃ a:E,a.ok=true/\er t=a.tree)->∃ es:List E,E.cM es=true/\aM l=E.trees es
 | [],_=>⟨[],rfl,rfl⟩
 | t::l,h=>by
  obtain ⟨a,h1,h2⟩:=h t (mem_cons_self);obtain ⟨es,h3,h4⟩:=EJ l (fun t ht=>h t (mem_cons_of_mem _ ht));exact ⟨a::es,by simp [E.cM,h1,h3],by rw [aM,E.trees,h2,h4]⟩
theorem toE:∀ (sz:Nat) (t:T),sizeOf t<=sz->c7 t=true->mA t.n.kind=true->∃ a:E,a.ok=true/\er t=a.tree:=by
 intro sz
 induction sz with
 | zero=>intro t h;cases t;simp at h
 | succ sz ih =>
  intro t cS ha hk;obtain ⟨n,l⟩:=t;rw [HH,Bool.and_eq_true] at ha;obtain ⟨ha,ho⟩:=ha
  have pU:∀ t∈l,mA t.n.kind=true->∃ a:E,a.ok=true/\er t=a.tree:=fun t ht hk=>by
   have:=List.sizeOf_lt_of_mem ht;exact ih t (by simp at cS;omega) (tP ha ht) hk
  obtain ⟨k,at_,v,s,ks⟩:=n
  have hk:(1:Int)<=k/\k<=6:=by
   simp only [mA,T.n,Bool.and_eq_true] at hk;exact ⟨of_decide_eq_true hk.1,of_decide_eq_true hk.2⟩
  simp only [bN,own,T.n,T.kids] at ho
  obtain rfl | rfl | rfl | rfl | rfl | rfl:k=1\/k=2\/k=3\/k=4\/k=5\/k=6:=by omega
  ·simp at ho;obtain ⟨h1,h2,h3,h4,h5⟩:=ho;subst h4 h5;exact ⟨.num v,by simp only [E.ok,Bool.and_eq_true];exact ⟨h2,h3⟩,by rw [lY,E.tree];rfl⟩
  ·simp at ho;obtain ⟨h1,h2,h3,h4⟩:=ho;subst h2 h4;exact ⟨.name s,by simp [E.ok,h3],by rw [lY,E.tree];rfl⟩
  ·simp at ho;obtain ⟨h1,h2,h3,h4,h5⟩:=ho;subst h2
   match l,h4 with
   | [t],_ =>
    have w7:=im h5 0 t rfl;obtain ⟨a,h6,h7⟩:=pU t (by simp) (by simpa using w7);exact ⟨.at_ s a,by simp [E.ok,h3,h6],by rw [lY,E.tree,aM,h7];rfl⟩
  ·simp at ho;obtain ⟨h1,h2,h3,h5⟩:=ho;subst h2
   obtain ⟨es,h6,h7⟩:=EJ l fun t ht=>pU t ht (by
    obtain ⟨j,hj⟩:=List.mem_iff_getElem?.1 ht;have ak:=(List.getElem?_eq_some_iff.1 hj).1;have:=im h5 j t hj
    rw [if_pos ao] at this;exact this)
   exact ⟨.call s es,by simp [E.ok,h3,h6],by rw [lY,E.tree,h7]⟩
  ·simp at ho;obtain ⟨h1,h2,h3,h4,h5⟩:=ho;subst h2
   match l,h4 with
   | [t],_ =>
    have w7:=im h5 0 t rfl;obtain ⟨a,h6,h7⟩:=pU t (by simp) (by simpa using w7);exact ⟨.un s a,by simp only [E.ok,h6,Bool.and_true,Bool.or_eq_true,beq_iff_eq];exact h3,by rw [lY,E.tree,aM,h7];rfl⟩
  ·simp at ho;obtain ⟨h1,h2,h3,h4,h5⟩:=ho;subst h2
   match l,h4 with
   | [t,u],_ =>
    have w7:=im h5 0 t rfl;have hku:=im h5 1 u rfl;obtain ⟨a,h6,h7⟩:=pU t (by simp) (by simpa using w7);obtain ⟨b,h8,h9⟩:=pU u (by simp) (by simpa using hku);exact ⟨.bin s a b,by simp [E.ok,h3,h6,h8],by rw [lY,E.tree,aM,aM,h7,h9];rfl⟩
theorem Gm:∀ (l:List T),(∀ t∈l,∃ a:S,a.ok=true/\er t=a.tree)->∃ es:List S,S.cM es=true/\aM l=S.trees es
 | [],_=>⟨[],rfl,rfl⟩
 | t::l,h=>by
  obtain ⟨a,h1,h2⟩:=h t (mem_cons_self);obtain ⟨es,h3,h4⟩:=Gm l (fun t ht=>h t (mem_cons_of_mem _ ht));exact ⟨a::es,by simp [S.cM,h1,h3],by rw [aM,S.trees,h2,h4]⟩
theorem toS:∀ (sz:Nat) (t:T),sizeOf t<=sz->c7 t=true->(fY t.n.kind=true->∃ a:S,a.ok=true/\er t=a.tree)/\(t.n.kind=14->∃ l:List S,S.cM l=true/\er t=bF l):=by
 intro sz
 induction sz with
 | zero=>intro t h;cases t;simp at h
 | succ sz ih =>
  intro t cS ha;obtain ⟨n,l⟩:=t;rw [HH,Bool.and_eq_true] at ha;obtain ⟨ha,ho⟩:=ha
  have hex:∀ t∈l,mA t.n.kind=true->∃ a:E,a.ok=true/\er t=a.tree:=fun t ht hk=>toE _ t (Nat.le_refl _) (tP ha ht) hk
  have dj:∀ t∈l,t.n.kind=14->∃ l:List S,S.cM l=true/\er t=bF l:=fun t ht hk=>by
   have:=List.sizeOf_lt_of_mem ht;exact (ih t (by simp at cS;omega) (tP ha ht)).2 hk
  have cn:∀ t∈l,fY t.n.kind=true->∃ a:S,a.ok=true/\er t=a.tree:=fun t ht hk=>by
   have:=List.sizeOf_lt_of_mem ht;exact (ih t (by simp at cS;omega) (tP ha ht)).1 hk
  obtain ⟨k,at_,v,s,ks⟩:=n;simp only [bN,own,T.n,T.kids] at ho;refine ⟨fun hk=>?_,fun hk=>?_⟩
  ·have hk:(7:Int)<=k/\k<=13:=by
    simp only [fY,T.n,Bool.and_eq_true] at hk;exact ⟨of_decide_eq_true hk.1,of_decide_eq_true hk.2⟩
   obtain rfl | rfl | rfl | rfl | rfl | rfl | rfl:k=7\/k=8\/k=9\/k=10\/k=11\/k=12\/k=13:=by omega
   ·simp at ho;obtain ⟨h1,h2,h3,h4,h5⟩:=ho;subst h2
    match l,h4 with
    | [t],_ =>
     obtain ⟨a,h6,h7⟩:=hex t (by simp) (by simpa using im h5 0 t rfl);exact ⟨.set s a,by simp [S.ok,h3,h6],by rw [lY,S.tree,aM,h7];rfl⟩
   ·simp at ho;obtain ⟨h1,h2,h3,h4,h5⟩:=ho;subst h2
    match l,h4 with
    | [t,u],_ =>
     obtain ⟨a,h6,h7⟩:=hex t (by simp) (by simpa using im h5 0 t rfl);obtain ⟨b,h8,h9⟩:=hex u (by simp) (by simpa using im h5 1 u rfl);exact ⟨.put s a b,by simp [S.ok,h3,h6,h8],by rw [lY,S.tree,aM,aM,h7,h9];rfl⟩
   ·simp at ho;obtain ⟨h1,h2,h3,h4,h5⟩:=ho;subst h2 h3
    rcases h4 with h4 | h4
    ·match l,h4 with
     | [t,u],_ =>
      obtain ⟨a,h6,h7⟩:=hex t (by simp) (by simpa using im h5 0 t rfl);obtain ⟨b,h8,h9⟩:=dj u (by simp) (by simpa using im h5 1 u rfl);exact ⟨.if1 a b,by simp [S.ok,h6,h8],by rw [lY,S.tree,aM,aM,h7,h9];rfl⟩
    ·match l,h4 with
     | [t,u,w],_ =>
      obtain ⟨a,h6,h7⟩:=hex t (by simp) (by simpa using im h5 0 t rfl);obtain ⟨b,h8,h9⟩:=dj u (by simp) (by simpa using im h5 1 u rfl);obtain ⟨c,kZ,oC⟩:=dj w (by simp) (by simpa using im h5 2 w rfl);exact ⟨.if2 a b c,by simp [S.ok,h6,h8,kZ],by rw [lY,S.tree,aM,aM,aM,h7,h9,oC];rfl⟩
   ·simp at ho;obtain ⟨h1,h2,h3,h4,h5⟩:=ho;subst h2 h3
    match l,h4 with
    | [t,u],_ =>
     obtain ⟨a,h6,h7⟩:=hex t (by simp) (by simpa using im h5 0 t rfl);obtain ⟨b,h8,h9⟩:=dj u (by simp) (by simpa using im h5 1 u rfl);exact ⟨.while_ a b,by simp [S.ok,h6,h8],by rw [lY,S.tree,aM,aM,h7,h9];rfl⟩
   ·simp at ho;obtain ⟨h1,h2,h3,h4,h5⟩:=ho;subst h2 h3
    match l,h4 with
    | [t],_ =>
     obtain ⟨a,h6,h7⟩:=hex t (by simp) (by simpa using im h5 0 t rfl);exact ⟨.ret a,by simp [S.ok,h6],by rw [lY,S.tree,aM,h7];rfl⟩
   ·simp at ho;obtain ⟨h1,h2,h3,h4,h5⟩:=ho;subst h2 h3
    match l,h4 with
    | [t],_ =>
     obtain ⟨a,h6,h7⟩:=hex t (by simp) (by simpa using im h5 0 t rfl);exact ⟨.do_ a,by simp [S.ok,h6],by rw [lY,S.tree,aM,h7];rfl⟩
   ·simp at ho;obtain ⟨h1,h2,h3,h4,h5⟩:=ho;subst h2
    match l,h4 with
    | [t],_ =>
     obtain ⟨a,h6,h7⟩:=hex t (by simp) (by simpa using im h5 0 t rfl);exact ⟨.var s a,by simp [S.ok,h3,h6],by rw [lY,S.tree,aM,h7];rfl⟩
  ·simp only [T.n] at hk;subst hk;simp at ho;obtain ⟨h1,h2,h3,h4⟩:=ho;subst h2 h4
   obtain ⟨es,h5,h6⟩:=Gm l fun t ht=>cn t ht (h3 t ht)
   exact ⟨es,h5,by rw [lY,bF,h6]⟩
theorem toB {t:T} (h:c7 t=true) (hk:t.n.kind=14):∃ l:List S,S.cM l=true/\er t=bF l:=(toS _ t (Nat.le_refl _) h).2 hk
mutual
def wt:T->Nat
 | .mk n l=>30+n.s.length+eG l
def eG:List T->Nat
 | []=>0
 | t::l=>wt t+eG l
end
mutual
theorem RV:∀ t:T,wt (er t)=wt t
 | .mk n l=>by rw [er,wt,wt,Jn l]
theorem Jn:∀ l:List T,eG (aM l)=eG l
 | []=>rfl
 | t::l=>by rw [aM,eG,eG,RV t,Jn l]
end
theorem HS:∀ (k n:Nat),n < 10 ^ (k+1)->(cB n).length<=k+1:=by
 intro k
 induction k with
 | zero=>intro n h;unfold cB;rw [dif_pos ao];simp
 | succ k ih =>
  intro n h;unfold cB;split
  ·simp
  ·rw [length_append];have:=ih (n / 10) (by rw [Nat.pow_succ] at h;omega);simp;omega
theorem sy (lv k:Nat) (x:ah):(qn lv k x).length<=x.length+2:=by unfold qn;split <;> simp
mutual
theorem E.len:∀ a:E,a.ok=true->a.txt.length+4<=wt a.tree/\a.full.length+4<=wt a.tree
 | .num n,h=>by
  simp only [E.ok,Bool.and_eq_true] at h;have h1:=of_decide_eq_true h.1;have h2:=of_decide_eq_true h.2;have:=HS 9 n.toNat ao;rw [E.txt,E.full,E.tree,wt];simp only [length_nil,eG];omega
 | .name s,h=>by rw [E.txt,E.full,E.tree,wt];simp only [eG];omega
 | .at_ s a,h=>by
  simp only [E.ok,Bool.and_eq_true] at h;have:=E.len a h.2;rw [E.txt,E.full,E.tree,wt];simp only [eG,length_append,length_cons,length_nil];omega
 | .call s l,h=>by
  simp only [E.ok,Bool.and_eq_true] at h;have:=E.lens l h.2;rw [E.txt,E.full,E.tree,wt];simp only [length_append,length_cons,length_nil];omega
 | .un s a,h=>by
  simp only [E.ok,Bool.and_eq_true] at h;have:=E.len a h.2;have:=sy a.lv 9 a.txt;rw [E.txt,E.full,E.tree,wt];simp only [eG,length_append,length_cons,length_nil];omega
 | .bin s a b,h=>by
  simp only [E.ok,Bool.and_eq_true] at h;have:=E.len a h.1.2;have:=E.len b h.2;have:=sy a.lv (dM s) a.txt;have:=sy b.lv (dM s+1) b.txt;rw [E.txt,E.full,E.tree,wt];simp only [eG,length_append,length_cons,length_nil];omega
theorem E.lens:∀ l:List E,E.cM l=true->(bC (E.cL l)).length<=eG (E.trees l)/\(bC (E.sn l)).length<=eG (E.trees l)
 | [],_=>⟨Nat.zero_le _,Nat.zero_le _⟩
 | a::l,h=>by
  simp only [E.cM,Bool.and_eq_true] at h;have h1:=E.len a h.1;have h2:=E.lens l h.2;rw [E.cL,E.sn,E.trees,eG]
  have key:∀ (x:ah) (l:List ah),(bC (x::l)).length<=x.length+2+(bC l).length:=by
   intro x l
   cases l with
   | nil=>simp [bC]
   | cons y l=>simp [bC];omega
  have:=key a.txt (E.cL l);have:=key a.full (E.sn l);omega
end
mutual
theorem S.len (x:E->ah) (hx:∀ a:E,a.ok=true->(x a).length+4<=wt a.tree):∀ s:S,s.ok=true->(s.txt x).length+4<=wt s.tree
 | .set s a,h=>by
  simp only [S.ok,Bool.and_eq_true] at h;have:=hx a h.2;rw [S.txt,S.tree,wt];simp only [eG,length_append,length_cons,length_nil];omega
 | .put s a b,h=>by
  simp only [S.ok,Bool.and_eq_true] at h;have:=hx a h.2.1;have:=hx b h.2.2;rw [S.txt,S.tree,wt];simp only [eG,length_append,length_cons,length_nil];omega
 | .if1 c b,h=>by
  simp only [S.ok,Bool.and_eq_true] at h;have:=hx c h.1;have:=S.lens x hx b h.2 [123,32];rw [S.txt,S.tree,wt];simp only [eG,wt,length_append,length_cons,length_nil] at *;omega
 | .if2 c b b2,h=>by
  simp only [S.ok,Bool.and_eq_true] at h;have:=hx c h.1;have:=S.lens x hx b h.2.1 [123,32];have:=S.lens x hx b2 h.2.2 [123,32];rw [S.txt,S.tree,wt];simp only [eG,wt,length_append,length_cons,length_nil] at *;omega
 | .while_ c b,h=>by
  simp only [S.ok,Bool.and_eq_true] at h;have:=hx c h.1;have:=S.lens x hx b h.2 [123,32];rw [S.txt,S.tree,wt];simp only [eG,wt,length_append,length_cons,length_nil] at *;omega
 | .ret a,h=>by
  simp only [S.ok] at h;have:=hx a h;rw [S.txt,S.tree,wt];simp only [eG,length_append,length_cons,length_nil];omega
 | .do_ a,h=>by
  simp only [S.ok] at h;have:=hx a h;rw [S.txt,S.tree,wt];simp only [eG,length_append,length_cons,length_nil];omega
 | .var s a,h=>by
  simp only [S.ok,Bool.and_eq_true] at h;have:=hx a h.2;rw [S.txt,S.tree,wt];simp only [eG,length_append,length_cons,length_nil];omega
theorem S.lens (x:E->ah) (hx:∀ a:E,a.ok=true->(x a).length+4<=wt a.tree):∀ l:List S,S.cM l=true->∀ acc:ah,(S.cL x acc l).length<=acc.length+eG (S.trees l)
 | [],_,acc=>by rw [S.cL];omega
 | a::l,h,acc=>by
  simp only [S.cM,Bool.and_eq_true] at h;have h1:=S.len x hx a h.1;have h2:=S.lens x hx l h.2 ((acc++a.txt x)++[32]);rw [S.cL,S.trees,eG];simp only [length_append,length_cons,length_nil] at h2;omega
end
theorem sx (x:E->ah) (hx:∀ a:E,a.ok=true->(x a).length+4<=wt a.tree) {l:List S} (h:S.cM l=true):(eV x l).length<=wt (bF l):=by
 have:=S.lens x hx l h [123,32];unfold eV bF;rw [wt];simp only [length_append,length_cons,length_nil] at *;omega
end Go.Xp
namespace Go.Im
open Go.Xp Go.Sp
def qh (g:Nat->Option (T × Nat)):List Int->Nat->List T->Option (List T × Nat)
 | [],next,acc=>some (acc,next)
 | k::r,next,acc=>if k=(next:Int) then match g next with
  | none=>none
  | some (t,e)=>qh g r e (acc++[t])
  else none
def om (nodes:List Nd):Nat->Nat->Option (T × Nat)
 | 0,_=>none
 | f+1,a=>match nodes[a]? with
  | none=>none
  | some n=>match qh (om nodes f) n.kids (a+1) [] with
   | none=>none
   | some (l,e)=>if n.at_ < 0 then none else some (.mk n l,e)
def tr (nodes:List Nd) (a:Nat):Option (T × Nat):=om nodes (nodes.length+1) a
theorem Gx {nodes:List Nd} {g:Nat->Option (T × Nat)} (hg:∀ a t e,g a=some (t,e)->a < e/\e<=nodes.length/\e=a+aP t/\(nodes.take e).drop a=lO a t) :
  ∀ (ks:List Int) (next:Nat) (acc l:List T) (e:Nat),next<=nodes.length->qh g ks next acc=some (l,e)->∃ l',l=acc++l'/\e=next+az l'/\e<=nodes.length/\ks=bX next l'/\(nodes.take e).drop next=ea next l'
 | [],next,acc,l,e,hn,h=>by
  rw [qh] at h;cases h;exact ⟨[],by simp,by simp [az],hn,rfl,by rw [ea];exact eq_nil_of_length_eq_zero (by rw [length_drop,length_take];omega)⟩
 | k::r,next,acc,l,e,hn,h=>by
  rw [qh] at h;split at h
  ·rename_i hk
   cases hq:g next with
   | none=>rw [hq] at h;cases h
   | some x =>
    obtain ⟨t,e1⟩:=x;rw [hq] at h;simp only at h;obtain ⟨a1,a2,a3,a4⟩:=hg _ _ _ hq;obtain ⟨l',b1,b2,b3,b4,b5⟩:=Gx hg r e1 (acc++[t]) l e a2 h;refine ⟨t::l',by rw [b1];simp,by rw [az];omega,b3,by rw [bX,<-a3,<-b4,hk],?_⟩;rw [ea,<-a3,<-a4,<-b5]
    have he:e1<=e:=by omega
    have h1:(nodes.take e).take e1=nodes.take e1:=by rw [List.take_take,Nat.min_eq_left he]
    have h2:(nodes.take e).drop next=((nodes.take e).take e1).drop next++(nodes.take e).drop e1:=by
     have h3:nodes.take e=(nodes.take e).take e1++(nodes.take e).drop e1:=(take_append_drop _ _).symm
     have h4:((nodes.take e).take e1).length=e1:=by rw [length_take,length_take];omega
     rw [h3,List.drop_append_of_le_length (by rw [h4];omega)];rw [<-h3]
    rw [h2,h1]
  ·cases h
theorem Av {nodes:List Nd}:∀ (f a:Nat) (t:T) (e:Nat),om nodes f a=some (t,e)->a < e/\e<=nodes.length/\e=a+aP t/\(nodes.take e).drop a=lO a t
 | 0,a,t,e,h=>by cases h
 | f+1,a,t,e,h=>by
  rw [om] at h
  cases hn:nodes[a]? with
  | none=>rw [hn] at h;cases h
  | some n =>
   rw [hn] at h;simp only at h;have ak:=(List.getElem?_eq_some_iff.1 hn).1
   cases hk:qh (om nodes f) n.kids (a+1) [] with
   | none=>rw [hk] at h;cases h
   | some x =>
    obtain ⟨l,e1⟩:=x;rw [hk] at h;simp only at h;split at h
    ·cases h
    ·cases h;obtain ⟨l',b1,b2,b3,b4,b5⟩:=Gx (Av f) n.kids (a+1) [] l e ak hk
     have:l'=l:=by rw [b1];rfl
     subst this;refine ⟨by omega,b3,by rw [aP];omega,?_⟩;rw [lO,<-b4,<-b5]
     have h1:(nodes.take e)[a]?=some n:=by rw [getElem?_take,if_pos ao];exact hn
     obtain ⟨h2,h3⟩:=List.getElem?_eq_some_iff.1 h1;rw [List.drop_eq_getElem_cons h2,h3]
def ji (nodes:List Nd):List Fn->Nat->List T->Option (List T × Nat)
 | [],next,acc=>some (acc,next)
 | f::r,next,acc=>match tr nodes next with
  | none=>none
  | some (t,e)=>if f.body=(next:Int) then ji nodes r e (acc++[t]) else none
def cX (k:Int) (n:Nat):Bool :=
 if k=1\/k=2 then ((n:Int)==0)
 else if k=4\/k=14 then true
 else if k=3\/k=5\/k=7\/k=11\/k=12\/k=13 then ((n:Int)==1)
 else if k=6\/k=8\/k=10 then ((n:Int)==2)
 else if k=9 then ((n:Int)==2) || ((n:Int)==3)
 else false
mutual
def fP:T->Bool
 | .mk n l=>cX n.kind l.length&&uH l
def uH:List T->Bool
 | []=>true
 | t::r=>fP t&&uH r
end
theorem xU (t:T):fP t=(cX t.n.kind t.kids.length&&uH t.kids):=by cases t;rw [fP];rfl
theorem tq (l:List T):uH l=l.all fP:=by
 induction l with
 | nil=>rfl
 | cons t l ih=>rw [uH,ih];rfl
mutual
def et (nodes:List Nd):Nat->T->Prop
 | a,.mk n l=>nodes[a]?=some n/\n.kids=bX (a+1) l/\dw nodes (a+1) l
def dw (nodes:List Nd):Nat->List T->Prop
 | _,[]=>True
 | a,t::r=>et nodes a t/\dw nodes (a+aP t) r
end
mutual
def xi:T->Prop
 | .mk n l=>0<=n.at_/\lX l
def lX:List T->Prop
 | []=>True
 | t::r=>xi t/\lX r
end
theorem km (t:T):1<=aP t:=by rw [ef];omega
mutual
theorem et.le {nodes:List Nd}:∀ (t:T) (a:Nat),et nodes a t->a+aP t<=nodes.length
 | .mk n l,a,h=>by
  rw [et] at h;have h1:=(List.getElem?_eq_some_iff.1 h.1).1;have:=dw.le l (a+1) h.2.2 h1;rw [aP];omega
theorem dw.le {nodes:List Nd}:∀ (l:List T) (a:Nat),dw nodes a l->a<=nodes.length->a+az l<=nodes.length
 | [],a,h,ha=>by rw [az];exact ha
 | t::r,a,h,ha=>by
  rw [dw] at h;have h1:=et.le t a h.1;have:=dw.le r _ h.2 h1;rw [az];omega
end
theorem HX {nodes:List Nd}:∀ (f:Nat),(∀ (a d:Nat) (e:Int),oq nodes f a d=some e->0<=e->∃ t,et nodes a t/\e=((a+aP t:Nat):Int)) /\
  (∀ (ks:List Int) (next d:Nat) (e:Int),nt nodes f ks (next:Int) d=some e->0<=e->∃ l,dw nodes next l/\ks=bX next l/\e=((next+az l:Nat):Int)):=by
 intro f
 induction f with
 | zero =>
  refine ⟨fun a d e h _=>by simp [oq] at h,fun ks next d e h _=>?_⟩
  cases ks with
  | nil=>rw [nt] at h;cases h;exact ⟨[],trivial,rfl,by simp [az]⟩
  | cons k r=>simp [nt] at h
 | succ f ih =>
  refine ⟨fun a d e h he=>?_,fun ks next d e h he=>?_⟩
  ·rw [oq] at h;split at h
   ·cases h;omega
   ·cases hn:nodes[a]? with
    | none=>rw [hn] at h;cases h
    | some n =>
     rw [hn] at h;simp only at h;rw [show ((a:Int)+1)=((a+1:Nat):Int) by omega] at h;obtain ⟨l,h1,h2,h3⟩:=ih.2 _ _ _ _ h he;exact ⟨.mk n l,by rw [et];exact ⟨hn,h2,h1⟩,by rw [h3,aP];omega⟩
  ·cases ks with
   | nil=>rw [nt] at h;cases h;exact ⟨[],trivial,rfl,by simp [az]⟩
   | cons k r =>
    rw [nt] at h;split at h
    ·rename_i hk;subst hk;rw [Int.toNat_natCast] at h
     cases hq:oq nodes f next (d+1) with
     | none=>rw [hq] at h;cases h
     | some e1 =>
      rw [hq] at h;simp only at h;split at h
      ·cases h;omega
      ·rename_i h0;obtain ⟨t,h1,h2⟩:=ih.1 _ _ _ hq ao;subst h2;obtain ⟨l,h3,h4,h5⟩:=ih.2 _ _ _ _ h he;refine ⟨t::l,by rw [dw];exact ⟨h1,h3⟩,by rw [bX,<-h4],by rw [h5,az];omega⟩
    ·cases h;omega
theorem vG {nodes:List Nd}:∀ (f:Nat),(∀ (t:T) (a:Nat),et nodes a t->2 * aP t<=f->sub nodes f a=some t) /\
  (∀ (l:List T) (a:Nat) (acc:List T),dw nodes a l->2 * az l+1<=f->ow nodes f (bX a l) acc=some (acc++l)):=by
 intro f
 induction f with
 | zero =>
  exact ⟨fun t a _ h=>by have:=km t;omega,fun l a acc _ h=>by omega⟩
 | succ f ih =>
  refine ⟨fun t a hs h=>?_,fun l a acc hs h=>?_⟩
  ·obtain ⟨n,l⟩:=t;rw [et] at hs;rw [aP] at h;rw [sub,hs.1];simp only;rw [hs.2.1,ih.2 l (a+1) [] hs.2.2 ao];rfl
  ·cases l with
   | nil=>rw [bX,ow];simp
   | cons t l =>
    rw [dw] at hs;rw [az] at h;have:=km t;rw [bX,ow,if_neg ao,Int.toNat_natCast,ih.1 t a hs.1 ao];simp only;rw [ih.2 l _ _ hs.2 ao];simp
theorem V1 {nodes:List Nd}:∀ (f:Nat) (t:T) (a:Nat),et nodes a t->xi t->aP t<=f->om nodes f a=some (t,a+aP t):=by
 intro f
 induction f with
 | zero=>intro t a _ _ h;have:=km t;omega
 | succ f ih =>
  intro t a hs ha h;obtain ⟨n,l⟩:=t
  have key:∀ (l:List T) (a:Nat) (acc:List T),dw nodes a l->lX l->az l<=f->qh (om nodes f) (bX a l) a acc=some (acc++l,a+az l):=by
   intro l
   induction l with
   | nil=>intro a acc _ _ _;rw [bX,qh,az];simp
   | cons t l ih2 =>
    intro a acc hs ha h;rw [dw] at hs;rw [lX] at ha;rw [az] at h;rw [bX,qh,if_pos rfl,ih t a hs.1 ha.1 ao];simp only;rw [ih2 _ _ hs.2 ha.2 ao,az];simp [Nat.add_assoc]
  rw [et] at hs;rw [xi] at ha;rw [aP] at h;rw [om,hs.1];simp only;rw [hs.2.1,key l (a+1) [] hs.2.2 ha.2 ao];simp only;rw [if_neg ao,aP];simp only [nil_append,Option.some.injEq,Prod.mk.injEq,true_and];omega
theorem VS {nodes:List Nd}:∀ (f:Nat) (t:T) (a e:Nat),om nodes f a=some (t,e)->et nodes a t/\e=a+aP t/\xi t:=by
 intro f
 induction f with
 | zero=>intro t a e h;cases h
 | succ f ih =>
  intro t a e h
  have key:∀ (ks:List Int) (next:Nat) (acc l:List T) (e:Nat),qh (om nodes f) ks next acc=some (l,e)->∃ l',l=acc++l'/\dw nodes next l'/\ks=bX next l'/\e=next+az l'/\lX l':=by
   intro ks
   induction ks with
   | nil=>intro next acc l e h;rw [qh] at h;cases h;exact ⟨[],by simp,trivial,rfl,by simp [az],trivial⟩
   | cons k r ih2 =>
    intro next acc l e h
    rw [qh] at h;split at h
    ·rename_i hk
     cases hq:om nodes f next with
     | none=>rw [hq] at h;cases h
     | some x =>
      obtain ⟨t,e1⟩:=x;rw [hq] at h;simp only at h;obtain ⟨a1,a2,a3⟩:=ih _ _ _ hq;subst a2;obtain ⟨l',b1,b2,b3,b4,b5⟩:=ih2 _ _ _ _ h;exact ⟨t::l',by rw [b1];simp,by rw [dw];exact ⟨a1,b2⟩,by rw [bX,hk,b3],by rw [b4,az];omega,by rw [lX];exact ⟨a3,b5⟩⟩
    ·cases h
  rw [om] at h
  cases hn:nodes[a]? with
  | none=>rw [hn] at h;cases h
  | some n =>
   rw [hn] at h;simp only at h
   cases hk:qh (om nodes f) n.kids (a+1) [] with
   | none=>rw [hk] at h;cases h
   | some x =>
    obtain ⟨l,e1⟩:=x;rw [hk] at h;simp only at h;split at h
    ·cases h
    ·rename_i h0;cases h;obtain ⟨l',b1,b2,b3,b4,b5⟩:=key _ _ _ _ _ hk
     have:l'=l:=by rw [b1];rfl
     subst this;exact ⟨by rw [et];exact ⟨hn,b3,b2⟩,by rw [b4,aP];omega,by rw [xi];exact ⟨by omega,b5⟩⟩
theorem Sl {nodes:List Nd} (hl:nodes.length<=800):∀ (f:Nat),(∀ (t:T) (a d:Nat),et nodes a t->d<=a->2 * aP t<=f->oq nodes f a d=some ((a+aP t:Nat):Int)) /\
  (∀ (l:List T) (a d:Nat),dw nodes a l->d < a->2 * az l+1<=f->nt nodes f (bX a l) (a:Int) d=some ((a+az l:Nat):Int)):=by
 intro f
 induction f with
 | zero =>
  exact ⟨fun t a d _ _ h=>by have:=km t;omega,fun l a d _ _ h=>by omega⟩
 | succ f ih =>
  refine ⟨fun t a d hs hd h=>?_,fun l a d hs hd h=>?_⟩
  ·obtain ⟨n,l⟩:=t;rw [et] at hs;rw [aP] at h |-;have ak:=(List.getElem?_eq_some_iff.1 hs.1).1;rw [oq,if_neg ao,hs.1];simp only;rw [show ((a:Int)+1)=((a+1:Nat):Int) by omega,hs.2.1,ih.2 l (a+1) d hs.2.2 ao ao]
   congr 1;omega
  ·cases l with
   | nil=>rw [bX,nt,az];simp
   | cons t l =>
    rw [dw] at hs;rw [az] at h |-;have:=km t;rw [bX,nt,if_pos rfl,Int.toNat_natCast,ih.1 t a (d+1) hs.1 ao ao];simp only;rw [if_neg ao,ih.2 l _ d hs.2 ao ao]
    congr 1;omega
theorem L6 {nodes:List Nd}:∀ (f:Nat),(∀ (a d:Nat),2 * (nodes.length - a)+1<=f->∃ e,oq nodes f a d=some e/\(0<=e->(a:Int) < e/\a < nodes.length)) /\
  (∀ (ks:List Int) (next d:Nat),2 * (nodes.length - next)+2<=f->∃ e,nt nodes f ks (next:Int) d=some e/\(0<=e->(next:Int)<=e)):=by
 intro f
 induction f with
 | zero=>exact ⟨fun a d h=>by omega,fun ks next d h=>by omega⟩
 | succ f ih =>
  refine ⟨fun a d h=>?_,fun ks next d h=>?_⟩
  ·rw [oq];split
   ·exact ⟨-1,rfl,fun h=>by omega⟩
   ·rename_i hc
    cases hn:nodes[a]? with
    | none=>rw [List.getElem?_eq_none_iff] at hn;omega
    | some n =>
     simp only;rw [show ((a:Int)+1)=((a+1:Nat):Int) by omega];obtain ⟨e,h1,h2⟩:=ih.2 n.kids (a+1) d ao;exact ⟨e,h1,fun h=>⟨by have:=h2 h;omega,by omega⟩⟩
  ·cases ks with
   | nil=>rw [nt];exact ⟨_,rfl,fun _=>Int.le_refl _⟩
   | cons k r =>
    rw [nt];split
    ·rename_i hk;subst hk;rw [Int.toNat_natCast]
     obtain ⟨e,h1,h2⟩:=ih.1 next (d+1) ao
     rw [h1];simp only;split
     ·exact ⟨-1,rfl,fun h=>by omega⟩
     ·rename_i h0;have h3:=h2 ao;obtain ⟨m,rfl⟩:∃ m:Nat,e=(m:Int):=⟨e.toNat,by omega⟩;obtain ⟨e',h4,h5⟩:=ih.2 r m d ao;exact ⟨e',h4,fun h=>by have:=h5 h;omega⟩
    ·exact ⟨-1,rfl,fun h=>by omega⟩
def fw (Q:Fn->T->Prop):List Fn->Nat->List T->Prop
 | [],_,[]=>True
 | f::r,a,t::l=>f.body=(a:Int)/\Q f t/\fw Q r (a+aP t) l
 | _,_,_=>False
theorem fw.len {Q:Fn->T->Prop}:∀ {fns:List Fn} {a:Nat} {l:List T},fw Q fns a l->fns.length=l.length
 | [],_,[],_=>rfl
 | f::r,a,t::l,h=>by rw [fw] at h;rw [length_cons,length_cons,fw.len h.2.2]
 | [],_,t::l,h=>by cases h
 | f::r,_,[],h=>by cases h
theorem fw.mono {Q R:Fn->T->Prop}:∀ {fns:List Fn} {a:Nat} {l:List T},fw Q fns a l->(∀ f t,f∈fns->t∈l->Q f t->R f t)->fw R fns a l
 | [],_,[],_,_=>trivial
 | f::r,a,t::l,h,hq=>by
  rw [fw] at h |-;exact ⟨h.1,hq _ _ mem_cons_self mem_cons_self h.2.1,fw.mono h.2.2 fun f t hf ht=>hq f t (mem_cons_of_mem _ hf) (mem_cons_of_mem _ ht)⟩
 | [],_,t::l,h,_=>by cases h
 | f::r,_,[],h,_=>by cases h
theorem fw.at_ {Q:Fn->T->Prop}:∀ {fns:List Fn} {a:Nat} {l:List T},fw Q fns a l->∀ (i:Nat) f t,fns[i]?=some f->l[i]?=some t->f.body=((a+az (l.take i):Nat):Int)/\Q f t
 | [],_,[],_,i,f,t,h1,h2=>by simp at h1
 | f::r,a,t::l,h,i,f',t',h1,h2=>by
  rw [fw] at h
  cases i with
  | zero=>cases h1;cases h2;rw [take_zero,az];exact ⟨h.1,h.2.1⟩
  | succ i =>
   obtain ⟨k1,k2⟩:=fw.at_ h.2.2 i f' t' (by simpa using h1) (by simpa using h2);exact ⟨by rw [k1,take_succ_cons,az];omega,k2⟩
 | [],_,t::l,h,_,_,_,_,_=>by cases h
 | f::r,_,[],h,_,_,_,_,_=>by cases h
structure OJ (f:Fn) (t:T):Prop where
 name:bp f.name=true
 params:cw f.params=true
 kind:t.n.kind=14
 all:c7 t=true
theorem zd {nodes:List Nd}:∀ (fns:List Fn) (next:Nat) (e:Int),fQ nodes fns (next:Int)=some (some e)->∃ l,dw nodes next l/\fw OJ fns next l/\e=((next+az l:Nat):Int)
 | [],next,e,h=>by rw [fQ] at h;cases h;exact ⟨[],trivial,trivial,by simp [az]⟩
 | f::r,next,e,h=>by
  rw [fQ,Int.toNat_natCast] at h
  cases hn:oq nodes (fN nodes) next 0 with
  | none=>rw [hn] at h;cases h
  | some e1 =>
   rw [hn] at h;simp only at h;split at h
   ·cases h
   ·rename_i hc;split at h
    ·cases h
    ·rename_i hp;obtain ⟨t,h1,h2⟩:=(HX _).1 _ _ _ hn ao;have hle:=et.le t _ h1;rw [(vG _).1 t next h1 (by unfold fN;omega)] at h;simp only at h;split at h
     ·cases h
     ·rename_i hk;subst h2;obtain ⟨l,k1,k2,k3⟩:=zd r _ e h;refine ⟨t::l,by rw [dw];exact ⟨h1,k1⟩,?_,by rw [k3,az];omega⟩;rw [fw];refine ⟨by omega,⟨?_,?_,?_,?_⟩,k2⟩
      ·cases hq:bp f.name with
       | true=>rfl
       | false=>exact absurd (.inr (.inl hq)) hc
      ·simpa using hp
      ·exact Decidable.byContradiction fun hq=>hk (.inl hq)
      ·cases hq:c7 t with
       | true=>rfl
       | false=>exact absurd (.inr hq) hk
theorem zc {nodes:List Nd} (hl:nodes.length<=800):∀ (fns:List Fn) (next:Nat) (l:List T),dw nodes next l->fw OJ fns next l->fQ nodes fns (next:Int)=some (some ((next+az l:Nat):Int))
 | [],next,[],_,_=>by rw [fQ,az];rfl
 | f::r,next,t::l,h,hf=>by
  rw [dw] at h;rw [fw] at hf;have hle:=et.le t _ h.1;rw [fQ,Int.toNat_natCast,(Sl hl _).1 t next 0 h.1 (Nat.zero_le _) (by unfold fN;omega)];simp only;rw [if_neg (by rw [hf.2.1.name];rintro (h | h | h);exact h hf.1;cases h;omega),if_neg (by rw [hf.2.1.params];decide),(vG _).1 t next h.1 (by unfold fN;omega)];simp only;rw [if_neg (by rw [hf.2.1.all];rintro (h | h);exact h hf.2.1.kind;cases h),zc hl r _ l h.2 hf.2.2,az]
  congr 2;omega
 | [],_,t::l,_,h=>by cases h
 | f::r,_,[],_,h=>by cases h
theorem wV {nodes:List Nd}:∀ (fns:List Fn) (next:Nat),∃ r,fQ nodes fns (next:Int)=some r
 | [],next=>⟨_,by rw [fQ]⟩
 | f::r,next=>by
  obtain ⟨e,h1,h2⟩:=(L6 (nodes:=nodes) (fN nodes)).1 next 0 (by unfold fN;omega)
  rw [fQ,Int.toNat_natCast,h1];simp only;split
  ·exact ⟨_,rfl⟩
  ·rename_i hc;split
   ·exact ⟨_,rfl⟩
   ·obtain ⟨t,k1,k2⟩:=(HX _).1 _ _ _ h1 ao;have hle:=et.le t _ k1;rw [(vG _).1 t next k1 (by unfold fN;omega)];simp only;split
    ·exact ⟨_,rfl⟩
    ·rw [k2];exact wV r _
theorem KU (p:Src):∃ b,nY p=some b:=by
 unfold nY;split
 ·exact ⟨_,rfl⟩
 ·split
  ·exact ⟨_,rfl⟩
  ·obtain ⟨r,h⟩:=wV (nodes:=p.nodes) p.fns 0;rw [show ((0:Nat):Int)=0 from rfl] at h;rw [h]
   cases r <;> exact ⟨_,rfl⟩
structure fJ (p:Src) (l:List T):Prop where
 globals:cw p.globals=true
 arrays:p.arrays.all oo=true
 st:dw p.nodes 0 l
 fns:fw OJ p.fns 0 l
 len:az l=p.nodes.length
 few:p.nodes.length<=800
theorem Th {p:Src} (h:nY p=some true):∃ l,fJ p l:=by
 unfold nY at h;split at h
 ·cases h
 ·rename_i h1;split at h
  ·cases h
  ·rename_i h2;rw [show (0:Int)=((0:Nat):Int) from rfl] at h
   cases hf:fQ p.nodes p.fns ((0:Nat):Int) with
   | none=>rw [hf] at h;cases h
   | some r =>
    rw [hf] at h
    cases r with
    | none=>cases h
    | some e =>
     obtain ⟨l,k1,k2,k3⟩:=zd _ _ _ hf;simp only [Option.some.injEq,Bool.and_eq_true,beq_iff_eq,decide_eq_true_eq] at h;exact ⟨l,by simpa using h1,by simpa using h2,k1,k2,by omega,by omega⟩
theorem fJ.nY {p:Src} {l:List T} (h:fJ p l):nY p=some true:=by
 unfold Go.Sp.nY;rw [if_neg (by rw [h.globals];decide),if_neg (by rw [h.arrays];decide),show (0:Int)=((0:Nat):Int) from rfl,zc h.few _ _ _ h.st h.fns];simp only [Option.some.injEq,Bool.and_eq_true,beq_iff_eq,decide_eq_true_eq];have:=h.len;have:=h.few;omega
theorem BO {nodes:List Nd}:∀ (fns:List Fn) (next:Nat) (acc l:List T) (e:Nat),ji nodes fns next acc=some (l,e)->∃ l',l=acc++l'/\dw nodes next l'/\fw (fun _ _=>True) fns next l'/\e=next+az l'/\lX l'
 | [],next,acc,l,e,h=>by rw [ji] at h;cases h;exact ⟨[],by simp,trivial,trivial,by simp [az],trivial⟩
 | f::r,next,acc,l,e,h=>by
  rw [ji] at h
  cases hq:tr nodes next with
  | none=>rw [hq] at h;cases h
  | some x =>
   obtain ⟨t,e1⟩:=x;rw [hq] at h;simp only at h;split at h
   ·rename_i hb;obtain ⟨a1,a2,a3⟩:=VS _ _ _ _ hq;subst a2;obtain ⟨l',b1,b2,b3,b4,b5⟩:=BO r _ _ _ _ h;exact ⟨t::l',by rw [b1];simp,by rw [dw];exact ⟨a1,b2⟩,by rw [fw];exact ⟨hb,trivial,b3⟩,by rw [b4,az];omega,by rw [lX];exact ⟨a3,b5⟩⟩
   ·cases h
theorem HN {nodes:List Nd} {Q:Fn->T->Prop}:∀ (fns:List Fn) (next:Nat) (acc l:List T),dw nodes next l->fw Q fns next l->lX l->ji nodes fns next acc=some (acc++l,next+az l)
 | [],next,acc,[],_,_,_=>by rw [ji,az];simp
 | f::r,next,acc,t::l,h,hf,ha=>by
  rw [dw] at h;rw [fw] at hf;rw [lX] at ha;have hle:=et.le t _ h.1;rw [ji,tr,V1 _ t next h.1 ha.1 ao];simp only;rw [if_pos hf.1,HN r _ _ l h.2 hf.2.2 ha.2,az];simp [Nat.add_assoc]
 | [],_,_,t::l,_,h,_=>by cases h
 | f::r,_,_,[],_,h,_=>by cases h
mutual
theorem et.fl {nodes:List Nd}:∀ (t:T) (a:Nat),et nodes a t->(nodes.take (a+aP t)).drop a=lO a t
 | .mk n l,a,h=>by
  have hle:=et.le _ _ h;rw [et] at h;rw [aP] at hle;have h1:=dw.fl l (a+1) h.2.2 (by have:=(List.getElem?_eq_some_iff.1 h.1).1;omega);rw [lO,<-h.2.1,<-h1,aP,show a+(az l+1)=a+1+az l by omega]
  have h2:(nodes.take (a+1+az l))[a]?=some n:=by rw [getElem?_take,if_pos ao];exact h.1
  obtain ⟨h3,h4⟩:=List.getElem?_eq_some_iff.1 h2;rw [List.drop_eq_getElem_cons h3,h4]
theorem dw.fl {nodes:List Nd}:∀ (l:List T) (a:Nat),dw nodes a l->a<=nodes.length->(nodes.take (a+az l)).drop a=ea a l
 | [],a,h,ha=>by
  rw [ea];exact eq_nil_of_length_eq_zero (by rw [az,length_drop,length_take];omega)
 | t::r,a,h,ha=>by
  rw [dw] at h;have hle:=et.le _ _ h.1;have h1:=et.fl t a h.1;have h2:=dw.fl r (a+aP t) h.2 hle;have zV:=dw.le r _ h.2 hle;rw [ea,<-h1,<-h2,az,show a+(aP t+az r)=a+aP t+az r by omega]
  have h3:nodes.take (a+aP t)=(nodes.take (a+aP t+az r)).take (a+aP t):=by rw [List.take_take,Nat.min_eq_left ao]
  rw [h3];generalize hm:nodes.take (a+aP t+az r)=m
  have dI:m.length=a+aP t+az r:=by rw [<-hm,length_take];omega
  rw [<-List.drop_append_of_le_length (by rw [length_take];omega),take_append_drop]
end
theorem dw.all {nodes:List Nd} {l:List T} (h:dw nodes 0 l) (hl:az l=nodes.length):nodes=ea 0 l:=by
 have:=dw.fl l 0 h (Nat.zero_le _);rw [Nat.zero_add,hl,List.take_length,List.drop_zero] at this;exact this
def nW (n:Int):ah:=if n < 0 then 45::cB n.natAbs else cB n.toNat
def rM (s:ah):Int:=match levels.findIdx? (fun l=>l.contains s) with | some i=>(i:Int) | none => -1
def tR (b:Bool) (x:ah):ah:=if b=true then (40::x)++[41] else x
def lk (t:T) (least:Int):Bool:=(t.n.kind==6)&&decide (rM t.n.s < least)
def tJ (n:Nd) (l:List T) (x:List ah):ah :=
 if n.kind=1 then nW n.n
 else if n.kind=3 then ((n.s++[91])++x.getD 0 [])++[93]
 else if n.kind=4 then ((n.s++[40])++bC x)++[41]
 else if n.kind=5 then (n.s++[32])++(match l with | a::_=>tR (a.n.kind==6) (x.getD 0 []) | []=>[])
 else if n.kind=6 then (match l with
  | a::b::_=>(((tR (lk a (rM n.s)) (x.getD 0 [])++[32])++n.s)++[32])++tR (lk b (rM n.s+1)) (x.getD 1 [])
  | _=>[])
 else n.s
mutual
def cP:T->ah
 | .mk n l=>tJ n l (fA l)
def fA:List T->List ah
 | []=>[]
 | t::r=>cP t::fA r
end
theorem N7 (t:T):cP t=tJ t.n t.kids (fA t.kids):=by cases t;rw [cP];rfl
theorem Cz (l:List T):fA l=l.map cP:=by
 induction l with
 | nil=>rfl
 | cons t l ih=>rw [fA,ih];rfl
mutual
def jE:T->Nat
 | .mk n l=>n.s.length+60+fM l
def fM:List T->Nat
 | []=>0
 | t::r=>jE t+fM r
end
theorem oQ (t:T):jE t=t.n.s.length+60+fM t.kids:=by cases t;rw [jE];rfl
theorem tL {l:List T} {t:T} (h:t∈l):jE t<=fM l:=by
 induction l with
 | nil=>cases h
 | cons a l ih =>
  rw [fM]
  rcases List.mem_cons.1 h with rfl | h
  ·omega
  ·have:=ih h;omega
theorem PQ (l:List T):l.length * 60<=fM l:=by
 induction l with
 | nil=>simp
 | cons t l ih=>rw [fM,oQ,length_cons];omega
theorem CT {n:Nat} (h:n < 100000000000000000000):(cB n).length<=20:=HS 19 n (by simpa using h)
theorem xT {n:Int} (h : -9223372036854775808<=n/\n<=9223372036854775807):(nW n).length<=21:=by
 unfold nW;split
 ·have:=CT (n:=n.natAbs) ao;simp only [length_cons];omega
 ·have:=CT (n:=n.toNat) ao;omega
theorem yl (b:Bool) (x:ah):(tR b x).length<=x.length+2:=by
 unfold tR;split <;> simp
theorem EL:∀ (r:List ah),(r.flatMap fun y=>44::32::y).length=(r.map fun y=>y.length+2).sum
 | []=>rfl
 | z::r=>by
  have:=EL r;simp only [flatMap_cons,length_append,List.map_cons,sum_cons,length_cons] at this |-;omega
theorem Ab:∀ (x:List ah),(bC x).length<=(x.map fun y=>y.length+2).sum
 | []=>by simp [bC]
 | y::r=>by
  have h:=EL r;rw [List.map_cons,sum_cons,bC,length_append,h];omega
mutual
def o0:T->Prop
 | .mk n l=>(-9223372036854775808<=n.n/\n.n<=9223372036854775807)/\p7 l
def p7:List T->Prop
 | []=>True
 | t::r=>o0 t/\p7 r
end
theorem qS (t:T):o0 t↔(-9223372036854775808<=t.n.n/\t.n.n<=9223372036854775807)/\p7 t.kids:=by cases t;rw [o0];exact Iff.rfl
theorem jD {l:List T} {t:T} (h:p7 l) (ht:t∈l):o0 t:=by
 induction l with
 | nil=>cases ht
 | cons a l ih =>
  rw [p7] at h
  rcases List.mem_cons.1 ht with rfl | ht
  ·exact h.1
  ·exact ih h.2 ht
theorem vJ:∀ (N:Nat) (t:T),aP t<=N->o0 t->(cP t).length+4<=jE t:=by
 intro N
 induction N with
 | zero=>intro t h;rw [ef] at h;omega
 | succ N ih =>
  intro t hN hn;rw [ef] at hN;rw [qS] at hn
  have hk:∀ a∈t.kids,(cP a).length+4<=jE a:=fun a ha=>by
   refine ih a ?_ (jD hn.2 ha)
   have:∀ (l:List T),a∈l->aP a<=az l:=by
    intro l
    induction l with
    | nil=>intro h;cases h
    | cons b l ih2 =>
     intro h;rw [az]
     rcases List.mem_cons.1 h with rfl | h
     ·omega
     ·have:=ih2 h;omega
   have:=this _ ha;omega
  have U2:((fA t.kids).map fun y=>y.length+2).sum<=fM t.kids:=by
   have:∀ (l:List T),(∀ a∈l,(cP a).length+4<=jE a)->((fA l).map fun y=>y.length+2).sum<=fM l:=by
    intro l
    induction l with
    | nil=>intro _;simp [fA]
    | cons a l ih2 =>
     intro h;have h1:=h a (mem_cons_self)
     have h2:=ih2 fun b hb=>h b (mem_cons_of_mem _ hb)
     rw [fA,fM,List.map_cons,sum_cons];omega
   exact this _ hk
  have h0:((fA t.kids).getD 0 []).length<=fM t.kids:=by
   cases hl:t.kids with
   | nil=>simp [fA]
   | cons a r =>
    have:=hk a (by rw [hl];exact mem_cons_self);rw [fA,fM];simp;omega
  have h01:∀ a b r,t.kids=a::b::r->((fA t.kids).getD 0 []).length+((fA t.kids).getD 1 []).length+8<=fM t.kids:=fun a b r hl=>by
   have h1:=hk a (by rw [hl];exact mem_cons_self);have h2:=hk b (by rw [hl];exact mem_cons_of_mem _ mem_cons_self);rw [hl,fA,fA,fM,fM];simp;omega
  rw [N7,oQ];unfold tJ;split
  ·have:=xT hn.1;omega
  ·split
   ·simp only [length_append,length_cons,length_nil];omega
   ·split
    ·have:=Ab (fA t.kids);simp only [length_append,length_cons,length_nil];omega
    ·split
     ·cases hl:t.kids with
      | nil=>simp <;> omega
      | cons a r =>
       simp only [length_append,length_cons,length_nil];have:=yl (a.n.kind==6) ((fA (a::r)).getD 0 []);rw [hl] at h0;omega
     ·split
      ·match hl:t.kids with
       | []=>simp <;> omega
       | [a]=>simp <;> omega
       | a::b::r =>
        have h1:=h01 a b r hl;rw [hl] at h1;have h2:=yl (lk a (rM t.n.s)) ((fA (a::b::r)).getD 0 []);have h3:=yl (lk b (rM t.n.s+1)) ((fA (a::b::r)).getD 1 []);simp only [length_append,length_cons,length_nil];omega
      ·omega
def xf (own:ah) (n:Nd) (k:Nat) (x b:List ah):ah :=
 if n.kind=13 then ((([118,97,114,32]++n.s)++[32,61,32])++x.getD 0 [])++[59]
 else if n.kind=7 then ((n.s++[32,61,32])++x.getD 0 [])++[59]
 else if n.kind=8 then ((((n.s++[91])++x.getD 0 [])++[93,32,61,32])++x.getD 1 [])++[59]
 else if n.kind=9 then (if k=3 then ((([105,102,32,40]++x.getD 0 [])++[41,32])++b.getD 1 [])++([32,101,108,115,101,32]++b.getD 2 []) else (([105,102,32,40]++x.getD 0 [])++[41,32])++b.getD 1 [])
 else if n.kind=10 then (([119,104,105,108,101,32,40]++x.getD 0 [])++[41,32])++b.getD 1 []
 else if n.kind=11 then ([114,101,116,117,114,110,32]++x.getD 0 [])++[59]
 else if n.kind=12 then x.getD 0 []++[59]
 else own
section
variable (tx:T->ah) (inl:List ah->Nat->ah)
mutual
def jU:Nat->T->ah
 | d,.mk n l=>xf (tx (.mk n l)) n l.length (l.map tx) (pL d l)
def pL:Nat->List T->List ah
 | _,[]=>[]
 | d,t::r=>na d t::pL d r
def na:Nat->T->ah
 | d,.mk n l=>inl (xe (d+1) l) d
def xe:Nat->List T->List ah
 | _,[]=>[]
 | d,t::r=>jU d t::xe d r
end
end
theorem N1 (tx:T->ah) (inl:List ah->Nat->ah) (d:Nat) (t:T):jU tx inl d t=xf (tx t) t.n t.kids.length (t.kids.map tx) (pL tx inl d t.kids):=by cases t;rw [jU];rfl
theorem LH (tx:T->ah) (inl:List ah->Nat->ah) (d:Nat) (t:T):na tx inl d t=inl (xe tx inl (d+1) t.kids) d:=by cases t;rw [na];rfl
theorem HL (tx:T->ah) (inl:List ah->Nat->ah) (d:Nat) (l:List T):pL tx inl d l=l.map (na tx inl d):=by
 induction l with
 | nil=>rfl
 | cons t l ih=>rw [pL,ih];rfl
theorem I8 (tx:T->ah) (inl:List ah->Nat->ah) (d:Nat) (l:List T):xe tx inl d l=l.map (jU tx inl d):=by
 induction l with
 | nil=>rfl
 | cons t l ih=>rw [xe,ih];rfl
def rX (acc:ah) (l:List ah):ah:=l.foldl (fun acc s=>acc++(s++[32])) acc
def ft (l:List ah) (d:Nat):ah:=rX [123,32] l++[125]
def kh:List ah->Nat
 | []=>0
 | s::l=>s.length+1+kh l
theorem sR (l:List ah):∀ acc,(rX acc l).length=acc.length+kh l:=by
 induction l with
 | nil=>intro acc;simp [rX,kh]
 | cons s l ih =>
  intro acc;have:=ih (acc++(s++[32]));simp only [rX,foldl_cons,kh,length_append,length_cons,length_nil] at this |-;omega
theorem Gp (a b:List ah):kh (a++b)=kh a+kh b:=by
 induction a with
 | nil=>simp [kh]
 | cons s a ih=>simp only [cons_append,kh,ih];omega
theorem N3 (l:List ah) (k:Nat):kh (l.take k)<=kh l:=by
 have:kh l=kh (l.take k)+kh (l.drop k):=by rw [<-Gp,take_append_drop]
 omega
theorem LM (acc:ah) (l:List ah) (s:ah):rX acc (l++[s])=rX acc l++(s++[32]):=by simp [rX]
theorem Tj {l:List ah} {s:ah} (h:s∈l):s.length<=kh l:=by
 induction l with
 | nil=>cases h
 | cons a l ih =>
  rw [kh]
  rcases List.mem_cons.1 h with rfl | h
  ·omega
  ·have:=ih h;omega
theorem Pw {l:List ah} {d:Nat} {s:ah} (h:s∈l):s.length<=(ft l d).length:=by
 have h1:=Tj h;have h2:=sR l [123,32];unfold ft;rw [length_append,h2];omega
def g1 (s:ah):ah:=([105,110,116,32]++s)++[59,10]
def a1 (a:Ar):ah:=((([105,110,116,32]++a.name)++[91])++nW a.size)++[93,59,10]
def f1 (tx:T->ah) (inl:List ah->Nat->ah) (x:Fn × T):ah:=((((([102,117,110,99,32]++x.1.name)++[40])++bC x.1.params)++[41,32])++na tx inl 0 x.2)++[10]
def di {α:Type} (f:α->ah):ah->List α->ah
 | acc,[]=>acc
 | acc,x::l=>di f (acc++f x) l
theorem xk {α:Type} (f:α->ah) (l:List α) (x:α):∀ acc,di f acc (l++[x])=di f acc l++f x:=by
 induction l with
 | nil=>intro acc;rfl
 | cons y l ih=>intro acc;simp only [cons_append,di];exact ih _
theorem OU {α:Type} (f:α->ah) (l k:List α):∀ acc,di f acc (l++k)=di f (di f acc l) k:=by
 induction l with
 | nil=>intro acc;rfl
 | cons y l ih=>intro acc;simp only [cons_append,di];exact ih _
theorem BQ {α:Type} (f:α->ah) (l:List α):∀ acc,acc.length<=(di f acc l).length:=by
 induction l with
 | nil=>intro acc;exact Nat.le_refl _
 | cons y l ih=>intro acc;have:=ih (acc++f y);rw [di];rw [length_append] at this;omega
theorem xl {α:Type} (f:α->ah) (l:List α) (k:Nat) (acc:ah):(di f acc (l.take k)).length<=(di f acc l).length:=by
 have:di f acc l=di f (di f acc (l.take k)) (l.drop k):=by rw [<-OU,take_append_drop]
 rw [this];exact BQ f _ _
def mV (tx:T->ah) (inl:List ah->Nat->ah) (p:Src) (trees:List T):ah:=di (f1 tx inl) (di a1 (di g1 [] p.globals) p.arrays) (p.fns.zip trees)
end Go.Im
namespace Go.Im
def ff {α:Type} (p:α->α->Bool):List α->List α->Bool
 | [],[]=>true
 | a::r,b::s=>p a b&&ff p r s
 | _,_=>false
theorem yr {α:Type} {p:α->α->Bool}:∀ {a b:List α},ff p a b=true->a.length=b.length
 | [],[],_=>rfl
 | a::r,b::s,h=>by rw [ff,Bool.and_eq_true] at h;rw [length_cons,length_cons,yr h.2]
 | [],b::s,h=>by cases h
 | a::r,[],h=>by cases h
theorem ry {α:Type} {p:α->α->Bool} {a b:List α} (h:a.length≠b.length):ff p a b=false:=by
 cases hc:ff p a b with
 | false=>rfl
 | true=>exact absurd (yr hc) h
theorem EE {α:Type} {p:α->α->Bool}:∀ {a b:List α} {k:Nat} {x y:α},a[k]?=some x->b[k]?=some y->ff p a b=true->p x y=true
 | a::r,b::s,0,x,y,h1,h2,h=>by cases h1;cases h2;rw [ff,Bool.and_eq_true] at h;exact h.1
 | a::r,b::s,k+1,x,y,h1,h2,h=>by rw [ff,Bool.and_eq_true] at h;exact EE (by simpa using h1) (by simpa using h2) h.2
 | [],_,k,x,y,h1,h2,h=>by simp at h1
 | a::r,[],k,x,y,h1,h2,h=>by simp at h2
theorem rz {α:Type} {p:α->α->Bool} {a b:List α} {k:Nat} {x y:α} (h1:a[k]?=some x) (h2:b[k]?=some y) (h:p x y=false):ff p a b=false:=by
 cases hc:ff p a b with
 | false=>rfl
 | true=>have:=EE h1 h2 hc;rw [h] at this;cases this
theorem HY {α:Type} {p:α->α->Bool}:∀ {a b:List α},a.length=b.length->(∀ (k:Nat) x y,a[k]?=some x->b[k]?=some y->p x y=true)->ff p a b=true
 | [],[],_,_=>rfl
 | a::r,b::s,hl,h=>by
  rw [ff,h 0 a b rfl rfl,HY (by simpa using hl) fun k x y h1 h2=>h (k+1) x y (by simpa using h1) (by simpa using h2)];rfl
 | [],b::s,hl,h=>by simp at hl
 | a::r,[],hl,h=>by simp at hl
def sU {α:Type} (p:α->α->Bool) (a b:List α) (k:Nat):Prop:=∀ j x y,j < k->a[j]?=some x->b[j]?=some y->p x y=true
theorem lN {α:Type} {p:α->α->Bool} {a b:List α} {k:Nat} {x y:α} (h1:a[k]?=some x) (h2:b[k]?=some y) (h:sU p a b k) (hp:p x y=true):sU p a b (k+1):=fun j u v hj h3 h4=>by
 by_cases he:j=k
 ·subst he;rw [h1] at h3;rw [h2] at h4;cases h3;cases h4;exact hp
 ·exact h j u v ao h3 h4
theorem nu {α:Type} {p:α->α->Bool} {a b:List α} (hl:a.length=b.length) (h:sU p a b a.length):ff p a b=true :=
 HY hl fun k x y h1 h2=>h k x y (List.getElem?_eq_some_iff.1 h1).1 h1 h2
def rl (a b:Go.Sp.Fn):Bool:=((a.name==b.name)&&ff (fun x y=>x==y) a.params b.params)&&(a.body==b.body)
def kE (a b:Go.Xp.Nd):Bool:=(((a.kind==b.kind)&&(a.n==b.n))&&(a.s==b.s))&&ff (fun x y=>x==y) a.kids b.kids
def y9 (x y:Go.Xp.Ar):Bool:=(x.name==y.name)&&(x.size==y.size)
open Go.Xp Go.Sp
theorem H4 (l:List T):(aM l).length=l.length:=by rw [sB,length_map]
theorem xq (t:T):(er t).n=⟨t.n.kind,0,t.n.n,t.n.s,[]⟩:=by cases t;rw [er];rfl
theorem Sn (t:T):(er t).kids=aM t.kids:=by cases t;rw [er];rfl
mutual
theorem vI:∀ t:T,aP (er t)=aP t
 | .mk n l=>by rw [er,aP,aP,vH l]
theorem vH:∀ l:List T,az (aM l)=az l
 | []=>by rw [aM]
 | t::r=>by rw [aM,az,az,vI t,vH r]
end
theorem Dj (m:Nat):∀ (l:List T) (i:Nat),bj m i (aM l)=bj m i l
 | [],i=>by rw [aM]
 | t::r,i=>by rw [aM,bj,bj,Dj m r (i+1),xq]
theorem DI:∀ (l:List T),(aM l).all (fun x=>fY x.n.kind)=l.all (fun x=>fY x.n.kind)
 | []=>by rw [aM]
 | t::r=>by rw [aM,all_cons,all_cons,DI r,xq]
theorem VD (n:Nd) (k:Nat) (kd:Nat->Bool) (bl:Bool) (h:0<=n.at_) (h':own ⟨n.kind,0,n.n,n.s,[]⟩ k kd bl=true):own n k kd bl=true:=by
 unfold own at h' |-;rw [if_neg (by simp)] at h';rw [if_neg (by simpa using h)];exact h'
mutual
theorem LB:∀ t:T,c7 (er t)=true->xi t->c7 t=true
 | .mk n l,h,ha=>by
  rw [er,c7,Bool.and_eq_true] at h;rw [xi] at ha;rw [c7,Bool.and_eq_true];refine ⟨HJ l h.1 ha.2,?_⟩;have h2:own ⟨n.kind,0,n.n,n.s,[]⟩ (aM l).length (fun m=>bj m 0 (aM l)) ((aM l).all fun x=>fY x.n.kind)=true:=h.2;rw [H4,DI] at h2;simp only [Dj] at h2;exact VD n _ _ _ ha.1 h2
theorem HJ:∀ l:List T,bW (aM l)=true->lX l->bW l=true
 | [],_,_=>rfl
 | t::r,h,ha=>by
  rw [aM,bW,Bool.and_eq_true] at h;rw [lX] at ha;rw [bW,Bool.and_eq_true];exact ⟨LB t h.1 ha.1,HJ r h.2 ha.2⟩
end
mutual
theorem LA:∀ t:T,c7 t=true->xi t
 | .mk n l,h=>by
  rw [c7,Bool.and_eq_true] at h;rw [xi];refine ⟨?_,HI l h.1⟩;have h2:own n l.length (fun m=>bj m 0 l) (l.all fun x=>fY x.n.kind)=true:=h.2
  by_cases h0:n.at_ < 0
  ·unfold own at h2;rw [if_pos (by simpa using h0)] at h2;cases h2
  ·omega
theorem HI:∀ l:List T,bW l=true->lX l
 | [],_=>trivial
 | t::r,h=>by
  rw [bW,Bool.and_eq_true] at h;rw [lX];exact ⟨LA t h.1,HI r h.2⟩
end
theorem kr (a:E):mA a.tree.n.kind=true:=by cases a <;> rfl
mutual
theorem E.fC:∀ a:E,a.ok=true->c7 a.tree=true
 | .num n,h=>by
  simp only [E.ok,Bool.and_eq_true] at h;rw [E.tree,c7,bW];simp [bN,own,T.n,T.kids];exact h
 | .name s,h=>by
  simp only [E.ok] at h;rw [E.tree,c7,bW];simp [bN,own,T.n,T.kids,h]
 | .at_ s a,h=>by
  simp only [E.ok,Bool.and_eq_true] at h;have h2:=E.fC a h.2;have h3:=kr a;rw [E.tree,c7,bW,bW,h2];simp [bN,own,T.n,T.kids,h.1,bj];exact h3
 | .call s l,h=>by
  simp only [E.ok,Bool.and_eq_true] at h;obtain ⟨h2,h3⟩:=E.rQ l h.2;rw [E.tree,c7,h2];have:=h3 (E.trees l).length 0 ao;simp [bN,own,T.n,T.kids,h.1,this]
 | .un s a,h=>by
  simp only [E.ok,Bool.and_eq_true] at h;have h2:=E.fC a h.2;have h3:=kr a;rw [E.tree,c7,bW,bW,h2];simp [bN,own,T.n,T.kids,bj];exact ⟨by simpa using h.1,h3⟩
 | .bin s a b,h=>by
  simp only [E.ok,Bool.and_eq_true] at h;have h2:=E.fC a h.1.2;have h3:=kr a;have h4:=E.fC b h.2;have h5:=kr b;rw [E.tree,c7,bW,bW,bW,h2,h4];simp [bN,own,T.n,T.kids,bj,h.1.1];exact ⟨h3,h5⟩
theorem E.rQ:∀ l:List E,E.cM l=true->bW (E.trees l)=true/\∀ m i,i+(E.trees l).length<=m->bj m i (E.trees l)=true
 | [],_=>⟨rfl,fun m i _=>rfl⟩
 | a::l,h=>by
  simp only [E.cM,Bool.and_eq_true] at h;obtain ⟨h2,h3⟩:=E.rQ l h.2;refine ⟨by rw [E.trees,bW,E.fC a h.1,h2];rfl,fun m i hm=>?_⟩;rw [E.trees,length_cons] at hm;rw [E.trees,bj,if_pos ao,kr a,h3 m (i+1) ao];rfl
end
theorem VJ (a:S):fY a.tree.n.kind=true:=by cases a <;> rfl
mutual
theorem S.fC:∀ a:S,a.ok=true->c7 a.tree=true
 | .set s a,h=>by
  simp only [S.ok,Bool.and_eq_true] at h;have h2:=E.fC a h.2;have h3:=kr a;rw [S.tree,c7,bW,bW,h2];simp [bN,own,T.n,T.kids,h.1,bj];exact h3
 | .var s a,h=>by
  simp only [S.ok,Bool.and_eq_true] at h;have h2:=E.fC a h.2;have h3:=kr a;rw [S.tree,c7,bW,bW,h2];simp [bN,own,T.n,T.kids,h.1,bj];exact h3
 | .ret a,h=>by
  simp only [S.ok] at h;have h2:=E.fC a h;have h3:=kr a;rw [S.tree,c7,bW,bW,h2];simp [bN,own,T.n,T.kids,bj];exact h3
 | .do_ a,h=>by
  simp only [S.ok] at h;have h2:=E.fC a h;have h3:=kr a;rw [S.tree,c7,bW,bW,h2];simp [bN,own,T.n,T.kids,bj];exact h3
 | .put s a b,h=>by
  simp only [S.ok,Bool.and_eq_true] at h;have h2:=E.fC a h.2.1;have h3:=kr a;have h4:=E.fC b h.2.2;have h5:=kr b;rw [S.tree,c7,bW,bW,bW,h2,h4];simp [bN,own,T.n,T.kids,bj,h.1];exact ⟨h3,h5⟩
 | .if1 c b,h=>by
  simp only [S.ok,Bool.and_eq_true] at h;have h2:=E.fC c h.1;have h3:=kr c;have h4:=S.uW b h.2;rw [S.tree,c7,bW,bW,bW,h2,h4];simp [bN,own,T.n,T.kids,bj];exact h3
 | .if2 c b b2,h=>by
  simp only [S.ok,Bool.and_eq_true] at h;have h2:=E.fC c h.1;have h3:=kr c;have h4:=S.uW b h.2.1;have h5:=S.uW b2 h.2.2;rw [S.tree,c7,bW,bW,bW,bW,h2,h4,h5];simp [bN,own,T.n,T.kids,bj];exact h3
 | .while_ c b,h=>by
  simp only [S.ok,Bool.and_eq_true] at h;have h2:=E.fC c h.1;have h3:=kr c;have h4:=S.uW b h.2;rw [S.tree,c7,bW,bW,bW,h2,h4];simp [bN,own,T.n,T.kids,bj];exact h3
theorem S.uW:∀ l:List S,S.cM l=true->c7 (.mk ⟨14,0,0,[],[]⟩ (S.trees l))=true
 | l,h=>by
  obtain ⟨h1,h2⟩:=S.rQ l h;have h3:bN (.mk ⟨14,0,0,[],[]⟩ (S.trees l))=own ⟨14,0,0,[],[]⟩ (S.trees l).length (fun m=>bj m 0 (S.trees l)) ((S.trees l).all fun x=>fY x.n.kind):=rfl;rw [c7,h1,h3,h2];simp [own]
theorem S.rQ:∀ l:List S,S.cM l=true->bW (S.trees l)=true/\(S.trees l).all (fun x=>fY x.n.kind)=true
 | [],_=>⟨rfl,rfl⟩
 | a::l,h=>by
  simp only [S.cM,Bool.and_eq_true] at h;obtain ⟨h1,h2⟩:=S.rQ l h.2;exact ⟨by rw [S.trees,bW,S.fC a h.1,h1];rfl,by rw [S.trees,all_cons,h2,VJ a];rfl⟩
end
theorem Xi {n:Nd} {k:Nat} {kd:Nat->Bool} {bl:Bool} (h:own n k kd bl=true):cX n.kind k=true:=by
 have hc:n.kind=1\/n.kind=2\/n.kind=3\/n.kind=4\/n.kind=5\/n.kind=6\/n.kind=7\/n.kind=8\/n.kind=9\/n.kind=10\/n.kind=11\/n.kind=12\/n.kind=13\/n.kind=14\/(n.kind < 1\/14 < n.kind):=by omega
 unfold own at h
 by_cases h0:decide (n.at_ < 0)=true
 ·rw [if_pos h0] at h;cases h
 rw [if_neg h0] at h
 by_cases h1:(n.kind != 1&&n.n != 0)=true
 ·rw [if_pos h1] at h;cases h
 rw [if_neg h1] at h;clear h0 h1
 rcases hc with hk | hk | hk | hk | hk | hk | hk | hk | hk | hk | hk | hk | hk | hk | hk
 all_goals (first | (simp [hk] at h;simp [cX,hk];done) | (simp [hk] at h;simp [cX,hk];omega) | (simp [hk] at h;simp [cX,hk,h];done) | skip)
 ·exfalso
  have e1:(n.kind==1)=false:=by simp;omega
  have e2:(n.kind==2)=false:=by simp;omega
  have e3:(n.kind==3)=false:=by simp;omega
  have e4:(n.kind==4)=false:=by simp;omega
  have e5:(n.kind==5)=false:=by simp;omega
  have e6:(n.kind==6)=false:=by simp;omega
  have e7:(n.kind==7)=false:=by simp;omega
  have e8:(n.kind==8)=false:=by simp;omega
  have e9:(n.kind==9)=false:=by simp;omega
  have XA:(n.kind==10)=false:=by simp;omega
  have Z4:(n.kind==11)=false:=by simp;omega
  have Z5:(n.kind==12)=false:=by simp;omega
  have Z6:(n.kind==13)=false:=by simp;omega
  have Z7:(n.kind==14)=false:=by simp;omega
  rw [e1,e2,e3,e4,e5,e6,e7,e8,e9,XA,Z4,Z5,Z6,Z7] at h;simp at h
mutual
theorem QM:∀ t:T,c7 t=true->fP t=true
 | .mk n l,h=>by
  rw [c7,Bool.and_eq_true] at h;rw [fP,LC l h.1,Bool.and_true];exact Xi h.2
theorem LC:∀ l:List T,bW l=true->uH l=true
 | [],_=>rfl
 | t::r,h=>by
  rw [bW,Bool.and_eq_true] at h;rw [uH,QM t h.1,LC r h.2];rfl
end
theorem PR (t:T) (z:Int):lk (er t) z=lk t z:=by unfold lk;rw [xq]
theorem To (n:Nd) (l:List T) (x:List ah):tJ ⟨n.kind,0,n.n,n.s,[]⟩ (aM l) x=tJ n l x:=by
 unfold tJ
 match l with
 | []=>rw [aM]
 | [a]=>rw [aM,aM];simp only [xq]
 | a::b::r=>rw [aM,aM];simp only [xq,PR]
mutual
theorem N8:∀ t:T,cP (er t)=cP t
 | .mk n l=>by rw [er,cP,cP,Cy l,To]
theorem Cy:∀ l:List T,fA (aM l)=fA l
 | []=>by rw [aM]
 | t::r=>by rw [aM,fA,fA,N8 t,Cy r]
end
mutual
theorem VQ (inl:List ah->Nat->ah):∀ (t:T) (d:Nat),jU cP inl d (er t)=jU cP inl d t
 | .mk n l,d=>by
  have h:=N8 (.mk n l);rw [er] at h |-;rw [jU,jU,h,HK inl l d,H4]
  have:(aM l).map cP=l.map cP:=by rw [<-Cz,<-Cz,Cy]
  rw [this];rfl
theorem HK (inl:List ah->Nat->ah):∀ (l:List T) (d:Nat),pL cP inl d (aM l)=pL cP inl d l
 | [],d=>by rw [aM]
 | t::r,d=>by rw [aM,pL,pL,LI inl t d,HK inl r d]
theorem LI (inl:List ah->Nat->ah):∀ (t:T) (d:Nat),na cP inl d (er t)=na cP inl d t
 | .mk n l,d=>by rw [er,na,na,I7 inl l (d+1)]
theorem I7 (inl:List ah->Nat->ah):∀ (l:List T) (d:Nat),xe cP inl d (aM l)=xe cP inl d l
 | [],d=>by rw [aM]
 | t::r,d=>by rw [aM,xe,xe,VQ inl t d,I7 inl r d]
end
theorem Nz {s:ah} (h:eA s=true):rM s=(dM s:Int):=by
 unfold rM dM
 cases hf:levels.findIdx? (fun l=>l.contains s) with
 | some i=>rfl
 | none =>
  rw [List.findIdx?_eq_none_iff] at hf;unfold eA at h;rw [any_eq_true] at h;obtain ⟨l,h1,h2⟩:=h;have:=hf l h1;rw [h2] at this;cases this
theorem IH {a:E} (h:a.ok=true) (k:Nat) (hk:k<=9):lk a.tree (k:Int)=decide (a.lv < k):=by
 have key:∀ b:Bool,(false&&b)=decide (9 < k):=fun b=>by rw [Bool.false_and,decide_eq_false ao]
 cases a with
 | bin s x y =>
  simp only [E.ok,Bool.and_eq_true] at h;show (true&&decide (rM s < (k:Int)))=decide (dM s < k);rw [Nz h.1.1,Bool.true_and];exact decide_eq_decide.2 ao
 | num n=>exact key _
 | name n=>exact key _
 | at_ s a=>exact key _
 | call s l=>exact key _
 | un s a=>exact key _
theorem BP (lv k:Nat) (x:ah):tR (decide (lv < k)) x=qn lv k x:=by
 unfold tR qn
 by_cases h:lv < k
 ·rw [if_pos (by simpa using h),if_pos h]
 ·rw [if_neg (by simpa using h),if_neg h]
theorem TI {a:E} (h:a.ok=true):(a.tree.n.kind==6)=decide (a.lv < 9):=by
 cases a with
 | bin s x y =>
  simp only [E.ok,Bool.and_eq_true] at h;have:=(pz h.1.1).1;show true=decide (dM s < 9);exact (decide_eq_true this).symm
 | _=>rfl
mutual
theorem ja:∀ a:E,a.ok=true->cP a.tree=a.txt
 | .num n,h=>by
  simp only [E.ok,Bool.and_eq_true,decide_eq_true_eq] at h;rw [E.tree,cP,E.txt];unfold tJ nW;simp only [if_true];rw [if_neg ao]
 | .name s,h=>by
  rw [E.tree,cP,E.txt];simp [tJ]
 | .at_ s a,h=>by
  simp only [E.ok,Bool.and_eq_true] at h;have h2:=ja a h.2;rw [E.tree,cP,fA,fA,h2,E.txt];simp [tJ]
 | .call s l,h=>by
  simp only [E.ok,Bool.and_eq_true] at h;rw [E.tree,cP,Jf l h.2,E.txt];simp [tJ]
 | .un s a,h=>by
  simp only [E.ok,Bool.and_eq_true] at h;have h2:=ja a h.2;rw [E.tree,cP,fA,fA,h2,E.txt,<-BP,<-TI h.2];simp [tJ]
 | .bin s a b,h=>by
  simp only [E.ok,Bool.and_eq_true] at h;have h2:=ja a h.1.2;have h3:=ja b h.2;have hl:=(pz h.1.1).1;have e1:=IH h.1.2 (dM s) ao;have e2:=IH h.2 (dM s+1) ao;rw [E.tree,cP,fA,fA,fA,h2,h3,E.txt,<-BP,<-BP,<-e1,<-e2];unfold tJ;simp only [Nz h.1.1];simp
theorem Jf:∀ l:List E,E.cM l=true->fA (E.trees l)=E.cL l
 | [],_=>rfl
 | a::l,h=>by
  simp only [E.cM,Bool.and_eq_true] at h;rw [E.trees,fA,E.cL,ja a h.1,Jf l h.2]
end
theorem CQ (x:E->ah):∀ (l:List S) (acc:ah),rX acc (l.map (S.txt x))=S.cL x acc l
 | [],acc=>by rw [S.cL];rfl
 | a::l,acc=>by
  rw [S.cL,<-CQ x l];simp [rX,append_assoc]
mutual
theorem Tg:∀ (s:S),s.ok=true->∀ d,jU cP ft d s.tree=s.txt E.txt
 | .set s a,h,d=>by
  simp only [S.ok,Bool.and_eq_true] at h;rw [S.tree,jU,List.map_cons,ja a h.2,S.txt];simp [xf]
 | .var s a,h,d=>by
  simp only [S.ok,Bool.and_eq_true] at h;rw [S.tree,jU,List.map_cons,ja a h.2,S.txt];simp [xf]
 | .ret a,h,d=>by
  simp only [S.ok] at h;rw [S.tree,jU,List.map_cons,ja a h,S.txt];simp [xf]
 | .do_ a,h,d=>by
  simp only [S.ok] at h;rw [S.tree,jU,List.map_cons,ja a h,S.txt];simp [xf]
 | .put s a b,h,d=>by
  simp only [S.ok,Bool.and_eq_true] at h;rw [S.tree,jU,List.map_cons,List.map_cons,ja a h.2.1,ja b h.2.2,S.txt];simp [xf]
 | .if1 c b,h,d=>by
  simp only [S.ok,Bool.and_eq_true] at h;have hb:=uV b h.2 d;rw [S.tree,jU,List.map_cons,ja c h.1,pL,pL,pL,hb,S.txt];simp [xf,eV]
 | .if2 c b b2,h,d=>by
  simp only [S.ok,Bool.and_eq_true] at h;have hb:=uV b h.2.1 d;have eI:=uV b2 h.2.2 d;rw [S.tree,jU,List.map_cons,ja c h.1,pL,pL,pL,pL,hb,eI,S.txt];simp [xf,eV]
 | .while_ c b,h,d=>by
  simp only [S.ok,Bool.and_eq_true] at h;have hb:=uV b h.2 d;rw [S.tree,jU,List.map_cons,ja c h.1,pL,pL,pL,hb,S.txt];simp [xf,eV]
theorem uV:∀ (l:List S),S.cM l=true->∀ d,na cP ft d (.mk ⟨14,0,0,[],[]⟩ (S.trees l))=eV E.txt l
 | l,h,d=>by
  rw [na,I9 l h (d+1),ft,CQ];rfl
theorem I9:∀ (l:List S),S.cM l=true->∀ d,xe cP ft d (S.trees l)=l.map (S.txt E.txt)
 | [],_,d=>by rw [S.trees,xe];rfl
 | a::l,h,d=>by
  simp only [S.cM,Bool.and_eq_true] at h;rw [S.trees,xe,List.map_cons,Tg a h.1,I9 l h.2]
end
theorem qE {α:Type} {p:α->α->Bool} (h:∀ x,p x x=true):∀ l:List α,ff p l l=true
 | []=>rfl
 | a::l=>by rw [ff,h a,qE h l];rfl
theorem yo {α:Type} [BEq α] [LawfulBEq α]:∀ {a b:List α},ff (fun x y=>x==y) a b=true->a=b
 | [],[],_=>rfl
 | a::r,b::s,h=>by rw [ff,Bool.and_eq_true,beq_iff_eq] at h;rw [h.1,yo h.2]
 | [],b::s,h=>by cases h
 | a::r,[],h=>by cases h
theorem HZ {α:Type} {p:α->α->Bool}:∀ {a b:List α} {c d:List α},a.length=b.length->ff p (a++c) (b++d)=(ff p a b&&ff p c d)
 | [],[],c,d,_=>rfl
 | a::r,b::s,c,d,h=>by rw [cons_append,cons_append,ff,ff,HZ (by simpa using h),Bool.and_assoc]
 | [],b::s,_,_,h=>by simp at h
 | a::r,[],_,_,h=>by simp at h
theorem wm:∀ (l:List T) (a:Nat),bX a (aM l)=bX a l
 | [],a=>by rw [aM]
 | t::r,a=>by rw [aM,bX,bX,vI,wm r]
mutual
theorem St:∀ (t u:T) (a:Nat),er t=er u->ff kE (lO a t) (lO a u)=true
 | .mk n l,.mk m k,a,h=>by
  rw [er,er] at h
  injection h with h1 h2
  injection h1 with h3 h4 h5 h6 h7
  rw [lO,lO,ff,BZ l k (a+1) h2,Bool.and_true,<-wm l,<-wm k,h2];simp only [kE,h3,h5,h6];simp [qE]
theorem BZ:∀ (l k:List T) (a:Nat),aM l=aM k->ff kE (ea a l) (ea a k)=true
 | [],[],a,_=>by rw [ea];rfl
 | t::r,u::s,a,h=>by
  rw [aM,aM] at h
  injection h with h1 h2
  have hz:aP t=aP u:=by rw [<-vI t,h1,vI u]
  rw [ea,ea,HZ (by rw [Ia,Ia,hz]),St t u a h1,<-hz,BZ r s _ h2];rfl
 | [],u::s,a,h=>by rw [aM,aM] at h;cases h
 | t::r,[],a,h=>by rw [aM,aM] at h;cases h
end
mutual
theorem Td:∀ (t u:T) (a:Nat) (x y:List Nd),ff kE (lO a t++x) (lO a u++y)=true->er t=er u/\ff kE x y=true
 | .mk n l,.mk m k,a,x,y,h=>by
  rw [lO,lO,cons_append,cons_append,ff,Bool.and_eq_true] at h;obtain ⟨h1,h2⟩:=h;simp only [kE,Bool.and_eq_true,beq_iff_eq] at h1;obtain ⟨⟨⟨h3,h4⟩,h5⟩,h6⟩:=h1;have h7:=congrArg List.length (yo h6);rw [dV,dV] at h7;obtain ⟨h8,h9⟩:=Cx l k (a+1) x y h7 h2;exact ⟨by rw [er,er,h3,h4,h5,h8],h9⟩
theorem Cx:∀ (l k:List T) (a:Nat) (x y:List Nd),l.length=k.length->ff kE (ea a l++x) (ea a k++y)=true->aM l=aM k/\ff kE x y=true
 | [],[],a,x,y,_,h=>by rw [ea,nil_append,nil_append] at h;exact ⟨rfl,h⟩
 | t::r,u::s,a,x,y,hl,h=>by
  rw [ea,ea,append_assoc,append_assoc] at h;obtain ⟨h1,h2⟩:=Td t u a _ _ h
  have hz:aP t=aP u:=by rw [<-vI t,h1,vI u]
  rw [<-hz] at h2;obtain ⟨h3,h4⟩:=Cx r s _ x y (by simpa using hl) h2;exact ⟨by rw [aM,aM,h1,h3],h4⟩
 | [],u::s,a,x,y,hl,h=>by simp at hl
 | t::r,[],a,x,y,hl,h=>by simp at hl
end
theorem Tc {l k:List T} (hl:l.length=k.length) (h:ff kE (ea 0 l) (ea 0 k)=true):aM l=aM k:=by
 have:=Cx l k 0 [] [] hl (by rw [append_nil,append_nil];exact h);exact this.1
structure PS where
 trees:List T
 globals:List ah
 arrays:List Ar
 fns:List (ah × List ah)
def PS.empty:PS:=⟨[],[],[],[]⟩
def oJ:Nat->List ah->RS->Option (List ah × RS)
 | 0,_,_=>none
 | f+1,acc,p =>
  if p.code=0/\is p 0 [41]=false then oJ f (acc++[(tok (if acc.length=0 then p else want p [44]) 0).s]) (bm (if acc.length=0 then p else want p [44]))
  else some (acc,want p [41])
def iW (f:Nat) (p:RS) (st:PS):Option (RS × PS) :=
 if is p 0 lj=true then
  if (bm p.next).code=0/\is (bm p.next) 0 [91]=true then
   if (tok (bm p.next).next 0).kind=1 then
    some (want (want (bm p.next).next.next [93]) [59],{ st with arrays:=st.arrays++[⟨(tok p.next 0).s,(tok (bm p.next).next 0).n⟩] })
   else some (jW (bm p.next).next,st)
  else some (want (bm p.next) [59],{ st with globals:=st.globals++[(tok p.next 0).s] })
 else if is p 0 mD=true then
  match oJ f [] (want (bm p.next) [40]) with
  | none=>none
  | some (l,q) =>
   if q.code=0 then match iS f (.block 1) q with
    | none=>none
    | some (t,q)=>some (q,{ st with trees:=st.trees++[t],fns:=st.fns++[((tok p.next 0).s,l)] })
   else some (q,st)
 else some (jW p,st)
def ni:Nat->Nat->RS->PS->Option (RS × PS)
 | 0,_,_,_=>none
 | g+1,f,p,st =>
  if p.code=0/\p.i < p.l.length then match iW f p st with
   | none=>none
   | some (p,st)=>ni g f p st
  else some (p,st)
theorem Na:∀ (f:Nat) (acc:List ah) (p:RS) (l:List ah) (q:RS),p.ok->oJ f acc p=some (l,q)->p.to q
 | 0,_,_,_,_,_,h=>by cases h
 | f+1,acc,p,l,q,hp,h=>by
  rw [oJ] at h;split at h
  ·have h1:p.to (if acc.length=0 then p else want p [44]):=by split;exact jG hp;exact cg hp _
   have h2:=gO (h1.ok hp);have h3:=Na f _ _ l q ((h1.trans h2).ok hp) h;exact (h1.trans h2).trans h3
  ·cases h;exact cg hp _
theorem WN {f:Nat} {p q:RS} {st dQ:PS} (hp:p.ok) (h:iW f p st=some (q,dQ)):p.to q:=by
 unfold iW at h;split at h
 ·rename_i hi;have h1:=jx hi;have h2:=h1.trans (gO (h1.ok hp));split at h
  ·rename_i hb;have h3:=h2.trans (jx hb.2);split at h
   ·rename_i hk
    have ly:(tok (bm p.next).next 0).kind≠0:=by rw [hk];decide
    have h4:=h3.trans (dv (by have:=rP ly;exact this));have h5:=h4.trans (cg (h4.ok hp) [93])
    cases h;exact h5.trans (cg (h5.ok hp) _)
   ·cases h;exact h3.trans (wM (h3.ok hp))
  ·cases h;exact h2.trans (cg (h2.ok hp) _)
 ·split at h
  ·rename_i hi;have h1:=jx hi;have h2:=h1.trans (gO (h1.ok hp));have h3:=h2.trans (cg (h2.ok hp) [40])
   cases hm:oJ f [] (want (bm p.next) [40]) with
   | none=>rw [hm] at h;cases h
   | some r =>
    obtain ⟨l,q1⟩:=r;rw [hm] at h;simp only at h;have h4:=h3.trans (Na _ _ _ _ _ (h3.ok hp) hm);split at h
    ·cases hb:iS f (.block 1) q1 with
     | none=>rw [hb] at h;cases h
     | some r =>
      obtain ⟨t,q2⟩:=r;rw [hb] at h;cases h;exact h4.trans ((D5 f).1 _ _ _ _ (h4.ok hp) hb)
    ·cases h;exact h4
  ·cases h;exact wM hp
structure PS.le (a:PS) (n:Nat):Prop where
 trees:a.trees.length<=n
 globals:a.globals.length<=n
 arrays:a.arrays.length<=n
 fns:a.fns.length=a.trees.length
theorem WK {f n:Nat} {p q:RS} {st dQ:PS} (h:iW f p st=some (q,dQ)) (hs:st.le n):dQ.le (n+1):=by
 obtain ⟨a,b,c,d⟩:=hs;have key:st.le (n+1):=⟨by omega,by omega,by omega,d⟩;unfold iW at h;split at h
 ·split at h
  ·split at h
   ·cases h;exact ⟨by simp;omega,by simp;omega,by simp;omega,by simp;omega⟩
   ·cases h;exact key
  ·cases h;exact ⟨by simp;omega,by simp;omega,by simp;omega,by simp;omega⟩
 ·split at h
  ·split at h
   ·cases h
   ·split at h
    ·split at h
     ·cases h
     ·cases h;exact ⟨by simp;omega,by simp;omega,by simp;omega,by simp;omega⟩
    ·cases h;exact key
  ·cases h;exact key
end Go.Im
namespace Go.Sp
open Go.Xp
inductive Tz (s:ah):Nat->List Tok->Nat->Prop
 | nil (a:Nat):Tz s a [] a
 | blank {a b:Nat} {c:UInt8} {ts:List Tok} (hc:s[a]?=some c) (hb:dA c=true) (h:Tz s (a+1) ts b):Tz s a ts b
 | tok {a a' b:Nat} {c:UInt8} {t:Tok} {ts:List Tok} (hc:s[a]?=some c) (hb:dA c=false) (hr:bx s a [47,42]=false) (ht:iJ s a c=(t,a')) (hk:t.kind=1\/t.kind=2\/t.kind=3) (hn:t.n<=2147483647) (ha:a < a') (h:Tz s a' ts b):Tz s a (t::ts) b
theorem Tz.app {s:ah} {a b c:Nat} {ts us:List Tok} (h:Tz s a ts b) (k:Tz s b us c):Tz s a (ts++us) c:=by
 induction h with
 | nil a=>exact k
 | blank hc hb h ih=>exact .blank hc hb (ih k)
 | tok hc hb hr ht hk hn ha h ih=>exact .tok hc hb hr ht hk hn ha (ih k)
theorem Tz.kinds {s:ah} {a b:Nat} {ts:List Tok} (h:Tz s a ts b):∀ t∈ts,t.kind=1\/t.kind=2\/t.kind=3:=by
 induction h with
 | nil a=>intro t h;cases h
 | blank hc hb h ih=>exact ih
 | tok hc hb hr ht hk hn ha h ih =>
  intro t h
  rcases List.mem_cons.1 h with rfl | h
  ·exact hk
  ·exact ih t h
theorem Tz.len {s:ah} {a b:Nat} {ts:List Tok} (h:Tz s a ts b):a+ts.length<=b:=by
 induction h with
 | nil a=>simp
 | blank hc hb h ih=>omega
 | tok hc hb hr ht hk hn ha h ih=>simp only [length_cons];omega
theorem NY (s:ah):∀ (f f' a:Nat),a<=s.length->s.length < f+a->s.length < f'+a->skip s f a=skip s f' a:=by
 intro f
 induction f with
 | zero=>intro f' a h1 h2;omega
 | succ f ih =>
  intro f' a h1 h2 h3;obtain ⟨f',rfl⟩:∃ g,f'=g+1:=⟨f' - 1,by omega⟩;rw [skip,skip]
  cases hc:s[a]? with
  | none=>rfl
  | some c =>
   simp only;have ak:=(List.getElem?_eq_some_iff.1 hc).1;split
   ·exact ih f' (a+1) ao ao ao
   ·split
    ·rename_i hb;have hb:=jt hb;have hb:a+2<=s.length:=hb;have h4:=sk s s.length (a+2) hb;have h5:=rh s s.length (a+2) hb ao;split
     ·rfl
     ·rename_i hn
      have h6:bx s (eN s s.length (a+2)) [42,47]=true:=by
       cases oa:bx s (eN s s.length (a+2)) [42,47] with
       | true=>rfl
       | false=>exact absurd ⟨by omega,oa⟩ h5
      have h6:=jt h6;have h6:eN s s.length (a+2)+2<=s.length:=h6;exact ih f' _ ao ao ao
    ·rfl
theorem Tz.iw {s:ah} {a b:Nat} {ts:List Tok} (h:Tz s a ts b):∀ (f:Nat) (acc:List Tok),qg s (f+ts.length) (skip s (s.length+1) a).1 acc=qg s f (skip s (s.length+1) b).1 (acc++ts):=by
 induction h with
 | nil a=>intro f acc;simp
 | blank hc hb h ih =>
  rename_i a b c ts;intro f acc;have ak:=(List.getElem?_eq_some_iff.1 hc).1;rw [<-ih f acc]
  have:skip s (s.length+1) a=skip s (s.length+1) (a+1):=by
   rw [skip,hc];simp only;rw [if_pos hb];exact NY s _ _ _ ao ao ao
  rw [this]
 | tok hc hb hr ht hk hn ha h ih =>
  rename_i a a' b c t ts;intro f acc
  have:skip s (s.length+1) a=(a,-1):=by
   rw [skip,hc];simp only;rw [if_neg (by rw [hb];decide),if_neg (by rw [hr];decide)]
  rw [this,length_cons,<-Nat.add_assoc,qg,hc];simp only [ht];rw [ih f (acc++[t]),append_assoc];rfl
theorem Tz.all {s:ah} {ts:List Tok} (h:Tz s 0 ts s.length):Go.Sp.iw s=some ts:=by
 have h1:=h.len;have h2:=h.iw (s.length+2 - ts.length) [];unfold Go.Sp.iw;rw [show s.length+2 - ts.length+ts.length=s.length+2 by omega] at h2;rw [h2]
 have h3:skip s (s.length+1) s.length=(s.length,-1):=by rw [skip];simp
 rw [h3];obtain ⟨g,hg⟩:∃ g,s.length+2 - ts.length=g+1:=⟨s.length+1 - ts.length,by omega⟩;rw [hg,qg];simp
theorem mK {s r:ah} {a:Nat} {c:UInt8} (h:s.drop a=c::r):s[a]?=some c/\s.drop (a+1)=r/\a < s.length:=by
 have h1:s[a]?=some c:=by
  have:=List.getElem?_drop (xs:=s) (i:=a) (j:=0);rw [h] at this;simpa using this.symm
 refine ⟨h1,?_,(List.getElem?_eq_some_iff.1 h1).1⟩;rw [<-List.tail_drop,h];rfl
theorem S9 (s:ah) (p:UInt8->Bool):∀ (w post:ah) (f a:Nat),s.drop a=w++post->(∀ c∈w,p c=true)->run s p (f+w.length) a=run s p f (a+w.length):=by
 intro w
 induction w with
 | nil=>intro post f a h hp;rfl
 | cons c w ih =>
  intro post f a h hp;obtain ⟨h1,h2,_⟩:=mK h;rw [length_cons,<-Nat.add_assoc,run,h1];simp only;rw [if_pos (hp c (mem_cons_self)),ih post f (a+1) h2 (fun c hc=>hp c (mem_cons_of_mem _ hc))]
  congr 1;omega
theorem Qc (s:ah) (p:UInt8->Bool) (post:ah) (f a:Nat) (h:s.drop a=post) (hp:∀ c,post.head?=some c->p c=false):run s p f a=a:=by
 cases f with
 | zero=>rfl
 | succ f =>
  rw [run]
  cases post with
  | nil =>
   have:s[a]?=none:=by
    rw [List.getElem?_eq_none_iff];have:=congrArg List.length h;simp at this;omega
   rw [this]
  | cons c r =>
   obtain ⟨h1,_,_⟩:=mK h;rw [h1];simp only;rw [if_neg (by rw [hp c rfl];decide)]
theorem take_drop {s w post:ah} {a:Nat} (h:s.drop a=w++post):(s.take (a+w.length)).drop a=w:=by
 rw [List.drop_take,h,Nat.add_sub_cancel_left,List.take_left]
theorem FF {s w post:ah} {a:Nat} (h:s.drop a=w++post) (ha:a<=s.length):a+w.length+post.length=s.length:=by
 have:=congrArg List.length h;simp only [length_drop,length_append] at this;omega
theorem QG {s w post:ah} {a:Nat} {c:UInt8} {r:ah} (ha:a<=s.length) (h:s.drop a=w++post) (hw:w=c::r) (hs:small c=true) (aQ:∀ c∈w,dN c=true) (hp:∀ c,post.head?=some c->dN c=false) :
  iJ s a c=(⟨if words.contains w=true then 3 else 2,0,w,a⟩,a+w.length):=by
 have hl:=FF h ha
 have he:eB s a=a+w.length:=by
  unfold eB;obtain ⟨g,hg⟩:∃ g,s.length+1=g+w.length:=⟨s.length+1 - w.length,by omega⟩;rw [hg,S9 s dN w post g a h aQ];refine Qc s dN post g _ ?_ hp;rw [<-List.drop_drop,h,drop_left]
 have hd:dT c=false:=by
  simp only [small,dT,Bool.and_eq_true] at hs |-;have h1:=of_decide_eq_true hs.1
  have:¬ ((c.toNat:Int)<=57):=by omega
  simp [this]
 unfold iJ;rw [if_neg (by rw [hd];decide),if_pos hs];unfold fa;rw [he,take_drop h]
def fold (n:Int) (w:ah):Int:=w.foldl (fun n c=>if n<=2147483647 then n * 10+((c.toNat:Int) - 48) else n) n
theorem Kz (s:ah):∀ (w post:ah) (f:Nat) (n:Int) (a:Nat),s.drop a=w++post->(∀ c∈w,dT c=true)->number s (f+w.length) n a=number s f (fold n w) (a+w.length):=by
 intro w
 induction w with
 | nil=>intro post f n a h hp;rfl
 | cons c w ih =>
  intro post f n a h hp;obtain ⟨h1,h2,_⟩:=mK h;rw [length_cons,<-Nat.add_assoc,number,h1];simp only;rw [if_pos (hp c (mem_cons_self)),ih post f _ (a+1) h2 (fun c hc=>hp c (mem_cons_of_mem _ hc))];rw [show a+1+w.length=a+(w.length+1) by omega];rfl
theorem Hr (s:ah) (post:ah) (f:Nat) (n:Int) (a:Nat) (h:s.drop a=post) (hp:∀ c,post.head?=some c->dT c=false):number s f n a=(n,a):=by
 cases f with
 | zero=>rfl
 | succ f =>
  rw [number]
  cases post with
  | nil =>
   have:s[a]?=none:=by
    rw [List.getElem?_eq_none_iff];have:=congrArg List.length h;simp at this;omega
   rw [this]
  | cons c r =>
   obtain ⟨h1,_,_⟩:=mK h;rw [h1];simp only;rw [if_neg (by rw [hp c rfl];decide)]
theorem L4 (k:Nat) (h:k<=9):dT (UInt8.ofNat (48+k))=true/\((UInt8.ofNat (48+k)).toNat:Int)=48+k:=by
 have:(UInt8.ofNat (48+k)).toNat=48+k:=by simp;omega
 refine ⟨?_,by rw [this];omega⟩;simp only [dT,Bool.and_eq_true,this];exact ⟨decide_eq_true ao,decide_eq_true ao⟩
theorem HT (n:Nat):(∀ c∈cB n,dT c=true)/\(n<=2147483647->fold 0 (cB n)=n)/\cB n≠[]:=by
 induction n using Nat.strongRecOn with
 | _ n ih =>
 unfold cB
 by_cases h:n < 10
 ·rw [dif_pos h];obtain ⟨h1,h2⟩:=L4 n ao;refine ⟨fun c hc=>by rw [mem_singleton] at hc;subst hc;exact h1,fun _=>?_,by simp⟩;simp only [fold,foldl_cons,List.foldl_nil];rw [if_pos ao,h2];omega
 ·rw [dif_neg h];obtain ⟨h1,h2,h3⟩:=ih (n / 10) ao;obtain ⟨h4,h5⟩:=L4 (n % 10) ao;refine ⟨fun c hc=>?_,fun hn=>?_,by simp⟩
  ·rcases List.mem_append.1 hc with hc | hc
   ·exact h1 c hc
   ·rw [mem_singleton] at hc;subst hc;exact h4
  ·have:=h2 ao;unfold fold at this |-;rw [List.foldl_append,this];simp only [foldl_cons,List.foldl_nil];rw [if_pos ao,h5];omega
theorem SV {s post:ah} {n a:Nat} {c:UInt8} {r:ah} (ha:a<=s.length) (h:s.drop a=cB n++post) (hw:cB n=c::r) (hn:n<=2147483647) (hp:∀ c,post.head?=some c->dT c=false) :
  iJ s a c=(⟨1,n,[],a⟩,a+(cB n).length):=by
 obtain ⟨h1,h2,h3⟩:=HT n;have hl:=FF h ha;have hd:dT c=true:=h1 c (by rw [hw];exact mem_cons_self);obtain ⟨g,hg⟩:∃ g,s.length+1=g+(cB n).length:=⟨s.length+1 - (cB n).length,by omega⟩;unfold iJ;rw [if_pos hd,hg,Kz s (cB n) post g 0 a h h1,h2 hn,Hr s post g _ _ (by rw [<-List.drop_drop,h,drop_left]) hp]
theorem uA {s r t:ah} {a:Nat} (h:s.drop a=r) (ha:a<=s.length):bx s a t=t.isPrefixOf r:=by
 have hl:a+r.length=s.length:=by have:=congrArg List.length h;simp at this;omega
 unfold bx;rw [List.drop_take,h,Nat.add_sub_cancel_left]
 by_cases hp:t <+: r
 ·obtain ⟨z,rfl⟩:=hp;simp only [length_append] at hl
  have h2:t.isPrefixOf (t++z)=true:=by rw [List.isPrefixOf_iff_prefix];exact ⟨z,rfl⟩
  rw [h2,List.take_left];simp only [Bool.and_eq_true,beq_self_eq_true,and_true,decide_eq_true_eq];omega
 ·have h1:t.isPrefixOf r=false:=by
   cases hh:t.isPrefixOf r with
   | false=>rfl
   | true=>exact absurd (List.isPrefixOf_iff_prefix.1 hh) hp
  rw [h1]
  have h2:(r.take t.length==t)=false:=by
   rw [beq_eq_false_iff_ne];intro h3;exact hp ⟨r.drop t.length,by have:=take_append_drop t.length r;rw [h3] at this;exact this⟩
  rw [h2,Bool.and_false]
def Cv:List UInt8:=[32,40,41,91,93,44,59,123,125,10]
def Sep (post:ah):Prop:=∀ c,post.head?=some c->c∈Cv
theorem Sep.dN {post:ah} (h:Sep post):∀ c,post.head?=some c->dN c=false:=by
 intro c hc
 have:∀ c∈Cv,Go.Sp.dN c=false:=by decide
 exact this c (h c hc)
theorem Sep.dT {post:ah} (h:Sep post):∀ c,post.head?=some c->dT c=false:=by
 intro c hc
 have:∀ c∈Cv,Go.Sp.dT c=false:=by decide
 exact this c (h c hc)
theorem S2 {x y z:ah} (h:x.length<=y.length):x.isPrefixOf (y++z)=x.isPrefixOf y:=by
 induction x generalizing y with
 | nil=>simp
 | cons a x ih =>
  cases y with
  | nil=>simp at h
  | cons b y=>simp only [cons_append,List.isPrefixOf];rw [ih (by simpa using h)]
theorem find_congr {α:Type} {p q:α->Bool}:∀ {l:List α},(∀ x∈l,p x=q x)->l.find? p=l.find? q
 | [],_=>rfl
 | a::l,h=>by rw [List.find?_cons,List.find?_cons,h a (mem_cons_self),find_congr (fun x hx=>h x (mem_cons_of_mem _ hx))]
theorem Qi {s w post:ah} {a:Nat} {c:UInt8} {r:ah} (ha:a<=s.length) (h:s.drop a=w++post) (hw:w=c::r) (hm:w∈bG) (hp:Sep post) :
  iJ s a c=(⟨3,0,w,a⟩,a+w.length)/\dA c=false/\bx s a [47,42]=false:=by
 have hd:∀ w∈bG,∀ c,w.head?=some c->dT c=false/\small c=false/\dA c=false:=by
  have:∀ w∈bG,(match w.head? with | some c=>!dT c&&!small c&&!dA c | none=>true)=true:=by decide
  intro w hw c hc;have:=this w hw;rw [hc] at this;simp only [Bool.and_eq_true,Bool.not_eq_true'] at this;exact ⟨this.1.1,this.1.2,this.2⟩
 obtain ⟨h1,h2,h3⟩:=hd w hm c (by rw [hw];rfl)
 have J0:∀ w∈bG,w.length<=2/\1<=w.length:=by decide
 have key:∀ w∈bG,bG.find? (fun x=>x.isPrefixOf w)=some w/\[47,42].isPrefixOf w=false:=by decide
 have ZC:∀ w∈bG,∀ c∈Cv,bG.find? (fun x=>x.isPrefixOf (w++[c]))=some w/\[47,42].isPrefixOf (w++[c])=false:=by decide
 have hf:bG.find? (bx s a)=some w/\bx s a [47,42]=false:=by
  have e1:∀ x,bx s a x=x.isPrefixOf (w++post):=fun x=>uA h ha
  have e2:bG.find? (bx s a)=bG.find? (fun x=>x.isPrefixOf (w++post)):=find_congr fun x _=>e1 x
  rw [e2,e1]
  cases post with
  | nil=>rw [append_nil];exact key w hm
  | cons c' post =>
   have dq:=hp c' rfl
   have e3:∀ x:ah,x.length<=2->x.isPrefixOf (w++c'::post)=x.isPrefixOf (w++[c']):=fun x hx=>by
    rw [show w++c'::post=(w++[c'])++post by simp];exact S2 (by rw [length_append];have:=(J0 w hm).2;simp;omega)
   rw [find_congr fun x hx=>e3 x (J0 x hx).1,e3 _ au];exact ZC w hm c' dq
 refine ⟨?_,h3,hf.2⟩;unfold iJ;rw [if_neg (by rw [h1];decide),if_neg (by rw [h2];decide),hf.1]
theorem Pb {s post:ah} {a:Nat} {c:UInt8} (ha:a<=s.length) (h:s.drop a=c::post) (hm:c∈[40,41,91,93,44,59,123,125]) :
  iJ s a c=(⟨3,0,[c],a⟩,a+1)/\dA c=false/\bx s a [47,42]=false:=by
 have hd:∀ c∈([40,41,91,93,44,59,123,125]:List UInt8),dT c=false/\small c=false/\dA c=false/\c≠47:=by decide
 obtain ⟨h1,h2,h3,h4⟩:=hd c hm
 have e1:∀ x,bx s a x=x.isPrefixOf (c::post):=fun x=>uA h ha
 have e2:bG.find? (bx s a)=bG.find? (fun x=>x.isPrefixOf (c::post)):=find_congr fun x _=>e1 x
 have key:∀ post:ah,∀ c∈([40,41,91,93,44,59,123,125]:List UInt8),bG.find? (fun x=>x.isPrefixOf (c::post))=some [c]:=by
  intro post c hc;simp only [List.mem_cons,List.not_mem_nil,or_false] at hc
  rcases hc with rfl | rfl | rfl | rfl | rfl | rfl | rfl | rfl <;> rfl
 refine ⟨?_,h3,?_⟩
 ·unfold iJ;rw [if_neg (by rw [h1];decide),if_neg (by rw [h2];decide),e2,key post c hm];rfl
 ·rw [e1];simp only [List.isPrefixOf]
  have:((47:UInt8)==c)=false:=by rw [beq_eq_false_iff_ne];exact fun h=>h4 h.symm
  rw [this,Bool.false_and]
end Go.Sp
namespace Go.Im
open Go.Xp Go.Sp
def lH:List ah:=[[105,110,116],[118,97,114],[102,117,110,99],[105,102],[101,108,115,101],[119,104,105,108,101],[114,101,116,117,114,110],[124,124],[38,38],[61,61],[33,61],[60,61],[62,61],[60,60],[62,62],[40],[41],[123],[125],[91],[93],[44],[59],[61],[60],[62],[43],[45],[42],[47],[37],[38],[124],[94],[33],[126]]
theorem ya:lH=words++bG:=by decide
def jM (s:ah):Bool:=lH.contains s
def jR:ah->Int->Int
 | [],n=>n
 | c::r,n=>if n<=2147483647 then jR r (10 * n+((c.toNat:Int) - 48)) else n
def cy (s:ah) (a b:Nat):ah:=(s.take b).drop a
def gi (s:ah) (a:Nat) (k:Nat):Bool:=decide (a+k<=s.length)&&(match s[a]? with | some c=>!(small c) | none=>false)&&jM (cy s a (a+k))
def fH (s:ah) (a:Nat):ah:=if gi s a 2=true then cy s a (a+2) else if gi s a 1=true then cy s a (a+1) else []
def jI (s:ah) (a:Nat):Nat:=run s dT (s.length+1) a
def qe:Tok:=⟨0,0,[],0⟩
def ki (s:ah) (a:Nat) (c:UInt8):Tok × Nat × Int :=
 if dT c=true then
  if jR (cy s a (jI s a)) 0 > 2147483647 then (qe,a,3) else (⟨1,jR (cy s a (jI s a)) 0,[],a⟩,jI s a,0)
 else if small c=true then (⟨if jM (fa s a)=true then 3 else 2,0,fa s a,a⟩,eB s a,0)
 else if fH s a=[] then (qe,a,2)
 else (⟨3,0,fH s a,a⟩,a+(fH s a).length,0)
def pV:ah->Option Nat
 | []=>none
 | b::l=>if List.isPrefixOf [42,47] (b::l) then some 0 else match pV l with | none=>none | some n=>some (n+1)
def mW (s:ah):Nat->Nat->List Tok->Option (List Tok × Int × Int)
 | 0,_,_=>none
 | f+1,a,acc=>match s[a]? with
  | none=>some (acc,0,0)
  | some c =>
   if dA c=true then mW s f (a+1) acc
   else if bx s a [47,42]=true then
    match pV (s.drop (a+2)) with
    | none=>some ([],4,a)
    | some n=>mW s f (a+(n+4)) acc
   else if (ki s a c).2.2≠0 then some ([],(ki s a c).2.2,a)
   else mW s f (ki s a c).2.1 (acc++[(ki s a c).1])
structure AD (t:Tok):Prop where
 num:t.kind=1->0<=t.n/\t.n<=2147483647/\t.s=[]
 name:t.kind=2->word t.s=true/\jM t.s=false
 sign:t.kind=3->jM t.s=true
 kinds:t.kind=1\/t.kind=2\/t.kind=3
theorem kO {s:ah} {a b:Nat} (h:b<=s.length):(cy s a b).length=b - a:=by
 unfold cy;rw [length_drop,length_take];omega
theorem pf {s:ah} {a b:Nat} {c:UInt8} (h:s[a]?=some c) (hb:a < b) (hl:b<=s.length):cy s a b=c::cy s (a+1) b:=by
 unfold cy;have ak:=(List.getElem?_eq_some_iff.1 h).1
 have:(s.take b)[a]?=some c:=by rw [getElem?_take,if_pos hb];exact h
 have h2:=(List.getElem?_eq_some_iff.1 this);rw [List.drop_eq_getElem_cons h2.1,h2.2]
theorem Ct (s:ah) (p:UInt8->Bool):∀ (f a:Nat),a<=s.length->∀ c∈cy s a (run s p f a),p c=true:=by
 intro f
 induction f with
 | zero =>
  intro a ha c hc;rw [Go.Sp.run] at hc
  have:(cy s a a).length=0:=by rw [kO ha];omega
  rw [eq_nil_of_length_eq_zero this] at hc;cases hc
 | succ f ih =>
  intro a ha c hc;rw [Go.Sp.run] at hc
  have Fi:∀ x:ah,x=cy s a a->c∈x->p c=true:=fun x hx hm=>by
   have:(cy s a a).length=0:=by rw [kO ha];omega
   rw [hx,eq_nil_of_length_eq_zero this] at hm;cases hm
  cases hq:s[a]? with
  | none=>rw [hq] at hc;exact Fi _ rfl hc
  | some d =>
   rw [hq] at hc;simp only at hc;have ak:=(List.getElem?_eq_some_iff.1 hq).1
   by_cases hp:p d=true
   ·rw [if_pos hp] at hc
    have lx:a+1<=Go.Sp.run s p f (a+1)/\Go.Sp.run s p f (a+1)<=s.length:=by
     have:∀ (f a:Nat),a<=s.length->a<=Go.Sp.run s p f a/\Go.Sp.run s p f a<=s.length:=by
      intro f
      induction f with
      | zero=>intro a h;exact ⟨Nat.le_refl _,h⟩
      | succ f ih =>
       intro a h;rw [Go.Sp.run]
       cases hq:s[a]? with
       | none=>exact ⟨Nat.le_refl _,h⟩
       | some d =>
        simp only;split
        ·have:=ih (a+1) (List.getElem?_eq_some_iff.1 hq).1;omega
        ·exact ⟨Nat.le_refl _,h⟩
     exact this f (a+1) ak
    rw [pf hq ao lx.2] at hc
    rcases List.mem_cons.1 hc with rfl | hc
    ·exact hp
    ·exact ih (a+1) ak c hc
   ·rw [if_neg hp] at hc;exact Fi _ rfl hc
theorem IW:∀ (w:ah) (n:Int),0<=n->(∀ c∈w,dT c=true)->0<=jR w n
 | [],n,h,_=>h
 | c::r,n,h,hd=>by
  rw [jR];have hc:=hd c (mem_cons_self);simp only [dT,Bool.and_eq_true,decide_eq_true_eq] at hc;split
  ·exact IW r _ ao (fun c hc=>hd c (mem_cons_of_mem _ hc))
  ·exact h
theorem Pz {x:ah} (h:jM x=true):x≠[]:=by
 intro h0;subst h0;revert h;decide
theorem Jh {s:ah} {a:Nat} {c:UInt8} (hc:s[a]?=some c) (h0:(ki s a c).2.2=0):AD (ki s a c).1/\(ki s a c).1.at_=a/\a < (ki s a c).2.1/\(ki s a c).2.1<=s.length:=by
 have ak:=(List.getElem?_eq_some_iff.1 hc).1;unfold ki at h0 |-
 by_cases hd:dT c=true
 ·rw [if_pos hd] at h0 |-
  by_cases hn:jR (cy s a (jI s a)) 0 > 2147483647
  ·rw [if_pos hn] at h0;cases h0
  ·rw [if_neg hn];obtain ⟨e1,e2,e3⟩:=pE s dT (s.length+1) a ao ao
   have w6:a < jI s a:=by
    rcases Nat.lt_or_ge a (jI s a) with h | h
    ·exact h
    ·have he:Go.Sp.run s dT (s.length+1) a=a:=by unfold jI at h;omega
     have:=e1 c (by rw [he];exact hc);rw [hd] at this;cases this
   refine ⟨⟨fun _=>⟨IW _ _ au (Ct s dT _ a ao),by simpa using hn,rfl⟩,fun h=>by simp at h,fun h=>by simp at h,.inl rfl⟩,rfl,w6,e3⟩
 ·rw [if_neg hd] at h0 |-
  by_cases hs:small c=true
  ·rw [if_pos hs];obtain ⟨e1,e2,e3⟩:=pE s dN (s.length+1) a ao ao
   have vg:dN c=true:=by simp [dN,hs]
   have w6:a < eB s a:=by
    rcases Nat.lt_or_ge a (eB s a) with h | h
    ·exact h
    ·have he:Go.Sp.run s dN (s.length+1) a=a:=by unfold eB at h;omega
     have:=e1 c (by rw [he];exact hc);rw [vg] at this;cases this
   have hw:word (fa s a)=true:=by
    have h1:fa s a=c::cy s (a+1) (eB s a):=pf hc w6 e3;have h2:=Ct s dN (s.length+1) a ao;unfold word;have h3:(fa s a).all dN=true:=List.all_eq_true.2 h2;rw [h3,h1];simp [hs]
   refine ⟨⟨fun h=>?_,fun h=>⟨hw,?_⟩,fun h=>?_,?_⟩,rfl,w6,e3⟩
   ·simp only at h;split at h <;> cases h
   ·simp only at h;split at h
    ·cases h
    ·rename_i hh;simpa using hh
   ·simp only at h;split at h
    ·assumption
    ·cases h
   ·simp only;split
    ·exact .inr (.inr rfl)
    ·exact .inr (.inl rfl)
  ·rw [if_neg hs] at h0 |-
   by_cases hg:fH s a=[]
   ·rw [if_pos hg] at h0;cases h0
   ·rw [if_neg hg]
    have key:jM (fH s a)=true/\a+(fH s a).length<=s.length:=by
     unfold fH at hg |-
     have aux:∀ k,gi s a k=true->jM (cy s a (a+k))=true/\a+(cy s a (a+k)).length<=s.length:=fun k h=>by
      simp only [gi,Bool.and_eq_true,decide_eq_true_eq] at h;refine ⟨h.2,?_⟩;rw [kO h.1.1];have:=h.1.1;omega
     split
     ·exact aux 2 (by assumption)
     ·rename_i h2;rw [if_neg h2] at hg;split
      ·exact aux 1 (by assumption)
      ·rename_i h1;rw [if_neg h1] at hg;exact absurd rfl hg
    have hl:=List.length_pos_iff.2 (Pz key.1);exact ⟨⟨fun h=>by simp at h,fun h=>by simp at h,fun _=>key.1,.inr (.inr rfl)⟩,rfl,by simp only;omega,key.2⟩
theorem B7:∀ {l:ah} {n:Nat},pV l=some n->n+2<=l.length
 | [],n,h=>by cases h
 | b::l,n,h=>by
  rw [pV] at h;split at h
  ·rename_i hp;cases h
   cases l with
   | nil=>simp [List.isPrefixOf] at hp
   | cons d l=>simp
  ·cases hq:pV l with
   | none=>rw [hq] at h;cases h
   | some m=>rw [hq] at h;cases h;have:=B7 hq;simp only [length_cons];omega
theorem rK (s:ah):∀ (f a:Nat) (acc:List Tok),a<=s.length->s.length < f+a->(∀ t∈acc,AD t)->(acc.Pairwise fun x y=>x.at_ < y.at_)->(∀ t∈acc,t.at_ < (a:Int))->acc.length<=a ->
  ∃ ts c z,mW s f a acc=some (ts,c,z)/\(∀ t∈ts,AD t)/\(ts.Pairwise fun x y=>x.at_ < y.at_)/\ts.length<=s.length
 | 0,a,acc,h1,h2,_,_,_,_=>by omega
 | f+1,a,acc,h1,h2,h3,h4,h5,h6=>by
  rw [mW]
  cases hc:s[a]? with
  | none=>exact ⟨acc,0,0,rfl,h3,h4,by omega⟩
  | some c =>
   simp only;have ak:=(List.getElem?_eq_some_iff.1 hc).1;split
   ·exact rK s f (a+1) acc ao ao h3 h4 (fun t ht=>by have:=h5 t ht;omega) ao
   ·split
    ·rename_i hb;have nc:=jt hb;simp only [length_cons,length_nil] at nc
     cases hi:pV (s.drop (a+2)) with
     | none=>exact ⟨[],4,a,rfl,fun t h=>by simp at h,.nil,Nat.zero_le _⟩
     | some n =>
      have:=B7 hi;rw [length_drop] at this;exact rK s f (a+(n+4)) acc ao ao h3 h4 (fun t ht=>by have:=h5 t ht;omega) ao
    ·split
     ·exact ⟨[],_,a,rfl,fun t h=>by simp at h,.nil,Nat.zero_le _⟩
     ·rename_i h0;obtain ⟨k1,k2,k3,k4⟩:=Jh hc (by simpa using h0);refine rK s f _ _ k4 ao (fun t ht=>?_) ?_ (fun t ht=>?_) (by rw [length_append];simp only [length_cons,length_nil];omega)
      ·rcases List.mem_append.1 ht with h | h
       ·exact h3 t h
       ·rw [mem_singleton] at h;subst h;exact k1
      ·rw [List.pairwise_append];refine ⟨h4,List.pairwise_singleton _ _,fun x hx y hy=>?_⟩;rw [mem_singleton] at hy;subst hy;rw [k2];exact h5 x hx
      ·rcases List.mem_append.1 ht with h | h
       ·have:=h5 t h;omega
       ·rw [mem_singleton] at h;subst h;rw [k2];omega
theorem zx (s:ah):∀ (f:Nat) (n:Int) (a:Nat),a<=s.length->s.length < f+a->jR (cy s a (number s f n a).2) n=(number s f n a).1
 | 0,n,a,h1,h2=>by omega
 | f+1,n,a,h1,h2=>by
  have Fi:cy s a a=[]:=eq_nil_of_length_eq_zero (by rw [kO h1];omega);rw [number]
  cases hc:s[a]? with
  | none=>simp only;rw [Fi,jR]
  | some c =>
   simp only;have ak:=(List.getElem?_eq_some_iff.1 hc).1
   by_cases hd:dT c=true
   ·rw [if_pos hd];obtain ⟨e1,e2,e3⟩:=wE s f (if n<=2147483647 then n * 10+((c.toNat:Int) - 48) else n) (a+1) ao ao;rw [pf hc ao e3,jR];have ih:=zx s f (if n<=2147483647 then n * 10+((c.toNat:Int) - 48) else n) (a+1) ao ao
    by_cases hn:n<=2147483647
    ·rw [if_pos hn] at ih |-;rw [if_pos hn,Int.mul_comm 10 n];exact ih
    ·rw [if_neg hn] at ih |-;rw [if_neg hn];rw [<-ih]
     cases hw:cy s (a+1) (number s f n (a+1)).2 with
     | nil=>rw [jR]
     | cons d r=>rw [jR,if_neg hn]
   ·rw [if_neg hd];simp only;rw [Fi,jR]
theorem Bj (s:ah):∀ (f:Nat) (n:Int) (a:Nat),(number s f n a).2=Go.Sp.run s dT f a
 | 0,n,a=>rfl
 | f+1,n,a=>by
  rw [number,Go.Sp.run]
  cases hc:s[a]? with
  | none=>rfl
  | some c =>
   simp only;split
   ·exact Bj s f _ (a+1)
   ·rfl
theorem nP {s x:ah} {a:Nat}:bx s a x=(decide (a+x.length<=s.length)&&(cy s a (a+x.length)==x)):=rfl
theorem KQ {s:ah} {a:Nat} {c:UInt8} (hc:s[a]?=some c) (hs:small c=false):fH s a=(match bG.find? (bx s a) with | some x=>x | none=>[]):=by
 have ak:=(List.getElem?_eq_some_iff.1 hc).1
 have h2:∀ x∈bG,x.length=1\/x.length=2:=by decide
 have A4:bG=bG.take 8++bG.drop 8:=(take_append_drop 8 bG).symm
 have jA:∀ x∈bG.take 8,x.length=2:=by decide
 have eS:∀ x∈bG.drop 8,x.length=1:=by decide
 have hw:∀ x∈words,∃ d r,x=d::r/\small d=true:=by
  intro x hx
  have:∀ x∈words,(match x with | d::_=>small d | []=>false)=true:=by decide
  have:=this x hx
  cases x with
  | nil=>cases this
  | cons d r=>exact ⟨d,r,rfl,this⟩
 have Pk:∀ k,1<=k->a+k<=s.length->cy s a (a+k)=c::cy s (a+1) (a+k):=fun k h1 h2=>pf hc ao h2
 have dJ:∀ k,1<=k->a+k<=s.length->(jM (cy s a (a+k))=true↔cy s a (a+k)∈bG):=fun k h1 h2=>by
  unfold jM;rw [ya,contains_iff_mem,List.mem_append];refine ⟨fun h=>h.resolve_left fun hm=>?_,.inr⟩;obtain ⟨d,r,e1,e2⟩:=hw _ hm;rw [Pk k h1 h2] at e1
  cases e1;rw [hs] at e2;cases e2
 have J5:∀ k,1<=k->(gi s a k=true↔a+k<=s.length/\cy s a (a+k)∈bG):=fun k h1=>by
  unfold gi;rw [hc];simp only [hs,Bool.not_false,Bool.and_true,Bool.and_eq_true,decide_eq_true_eq];exact ⟨fun ⟨p,q⟩=>⟨p,(dJ k h1 p).1 q⟩,fun ⟨p,q⟩=>⟨p,(dJ k h1 p).2 q⟩⟩
 have wg:∀ k,1<=k->k<=2->a+k<=s.length->cy s a (a+k)∈bG->(cy s a (a+k)).length=k:=fun k _ _ h _=>by rw [kO h];omega
 unfold fH
 by_cases t2:gi s a 2=true
 ·rw [if_pos t2];obtain ⟨p,q⟩:=(J5 2 au).1 t2
  have hq:cy s a (a+2)∈bG.take 8:=by
   rw [A4] at q
   rcases List.mem_append.1 q with h | h
   ·exact h
   ·have:=eS _ h;rw [kO p] at this;omega
  rw [A4,List.find?_append]
  have:(bG.take 8).find? (bx s a)=some (cy s a (a+2)):=by
   cases hf:(bG.take 8).find? (bx s a) with
   | none =>
    rw [find?_eq_none] at hf;have h1:=hf _ hq;rw [nP,kO p,show a+(a+2 - a)=a+2 by omega] at h1;simp [p] at h1
   | some x =>
    have h1:=List.find?_some hf;have h3:=jA x (List.mem_of_find?_eq_some hf);rw [nP,h3] at h1;simp only [Bool.and_eq_true,beq_iff_eq] at h1;rw [h1.2]
  rw [this];rfl
 ·rw [if_neg t2]
  have Zk:(bG.take 8).find? (bx s a)=none:=by
   rw [find?_eq_none];intro x hx hb;rw [nP,jA x hx] at hb;simp only [Bool.and_eq_true,beq_iff_eq,decide_eq_true_eq] at hb;exact t2 ((J5 2 au).2 ⟨hb.1,by rw [hb.2];exact List.mem_of_mem_take hx⟩)
  rw [A4,List.find?_append,Zk]
  by_cases t1:gi s a 1=true
  ·rw [if_pos t1];obtain ⟨p,q⟩:=(J5 1 au).1 t1
   have hq:cy s a (a+1)∈bG.drop 8:=by
    rw [A4] at q
    rcases List.mem_append.1 q with h | h
    ·have:=jA _ h;rw [kO p] at this;omega
    ·exact h
   have:(bG.drop 8).find? (bx s a)=some (cy s a (a+1)):=by
    cases hf:(bG.drop 8).find? (bx s a) with
    | none =>
     rw [find?_eq_none] at hf;have h1:=hf _ hq;rw [nP,kO p,show a+(a+1 - a)=a+1 by omega] at h1;simp [p] at h1
    | some x =>
     have h1:=List.find?_some hf;have h3:=eS x (List.mem_of_find?_eq_some hf);rw [nP,h3] at h1;simp only [Bool.and_eq_true,beq_iff_eq] at h1;rw [h1.2]
   rw [this];rfl
  ·rw [if_neg t1]
   have:(bG.drop 8).find? (bx s a)=none:=by
    rw [find?_eq_none];intro x hx hb;rw [nP,eS x hx] at hb;simp only [Bool.and_eq_true,beq_iff_eq,decide_eq_true_eq] at hb;exact t1 ((J5 1 au).2 ⟨hb.1,by rw [hb.2];exact List.mem_of_mem_drop hx⟩)
   rw [this];rfl
theorem Ts {s:ah} {a a':Nat} {c:UInt8} {t:Tok} (hc:s[a]?=some c) (h:iJ s a c=(t,a')) (hk:t.kind=1\/t.kind=2\/t.kind=3) (hn:t.n<=2147483647):ki s a c=(t,a',0):=by
 have ak:=(List.getElem?_eq_some_iff.1 hc).1;unfold iJ at h;unfold ki
 by_cases hd:dT c=true
 ·rw [if_pos hd] at h |-;cases h;have e1:jI s a=(number s (s.length+1) 0 a).2:=(Bj s _ 0 a).symm;rw [e1,zx s _ 0 a ao ao,if_neg (by simpa using hn)]
 ·rw [if_neg hd] at h |-
  by_cases hs:small c=true
  ·rw [if_pos hs] at h |-;cases h
   have Ft:∃ r,fa s a=c::r\/fa s a=[]:=by
    cases hw:fa s a with
    | nil=>exact ⟨[],.inr rfl⟩
    | cons d r =>
     obtain ⟨e1,e2,e3⟩:=pE s dN (s.length+1) a ao ao
     have vg:dN c=true:=by simp [dN,hs]
     have w6:a < eB s a:=by
      rcases Nat.lt_or_ge a (eB s a) with h | h
      ·exact h
      ·have he:Go.Sp.run s dN (s.length+1) a=a:=by unfold eB at h;omega
       have:=e1 c (by rw [he];exact hc);rw [vg] at this;cases this
     have h1:fa s a=c::cy s (a+1) (eB s a):=pf hc w6 e3;rw [hw] at h1;cases h1;exact ⟨_,.inl rfl⟩
   have dJ:jM (fa s a)=words.contains (fa s a):=by
    unfold jM;rw [ya]
    have A2:∀ x∈bG,(match x with | d::_=>small d | []=>true)=false:=by decide
    obtain ⟨r,h1⟩:=Ft
    have:bG.contains (fa s a)=false:=by
     cases gV:bG.contains (fa s a) with
     | false=>rfl
     | true =>
      have:=A2 _ (List.contains_iff_mem.1 gV)
      rcases h1 with h1 | h1 <;> rw [h1] at this <;> simp only at this
      ·rw [hs] at this;cases this
      ·cases this
    rw [Bool.eq_iff_iff,contains_iff_mem,List.mem_append,<-contains_iff_mem (as:=bG),this];simp
   rw [dJ]
  ·rw [if_neg hs] at h |-;rw [KQ hc (by simpa using hs)]
   cases hf:bG.find? (bx s a) with
   | none=>rw [hf] at h;cases h;simp at hk
   | some x =>
    rw [hf] at h;cases h;simp only;have hx:=List.mem_of_find?_eq_some hf
    have bP:x≠[]:=by
     intro h0;subst h0;revert hx;decide
    rw [if_neg bP]
theorem SM {s:ah} {a b:Nat} {ts:List Tok} (h:Tz s a ts b):b=s.length->∀ (f:Nat) (acc:List Tok),s.length < f+a->mW s f a acc=some (acc++ts,0,0):=by
 induction h with
 | nil a =>
  intro hb f acc hf
  cases f with
  | zero=>omega
  | succ f =>
   rw [mW];have:s[a]?=none:=List.getElem?_eq_none_iff.2 ao;rw [this];simp
 | blank hc nc h ih =>
  intro hb f acc hf
  cases f with
  | zero=>have:=(List.getElem?_eq_some_iff.1 hc).1;omega
  | succ f =>
   rw [mW,hc];simp only;rw [if_pos nc];exact ih hb f acc ao
 | tok hc nc hr ht hk hn ha h ih =>
  intro hb f acc hf
  cases f with
  | zero=>have:=(List.getElem?_eq_some_iff.1 hc).1;omega
  | succ f =>
   rw [mW,hc];simp only;rw [if_neg (by rw [nc];decide),if_neg (by rw [hr];decide),Ts hc ht hk hn];simp only [ne_eq,not_true_eq_false,if_false];rw [ih hb f _ ao];simp
abbrev rv (ts:List Tok):Prop:=∀ t∈ts,AD t
def EF (t:T):Prop:=∃ a:E,a.ok=true/\er t=a.tree
def Lk (l:List T):Prop:=∃ es:List E,E.cM es=true/\aM l=E.trees es
def Sf (ts r:List Tok) (n:Nat):Prop:=∃ pre,ts=pre++r/\n<=pre.length
theorem Sf.nil (ts:List Tok):Sf ts ts 0:=⟨[],rfl,Nat.zero_le _⟩
theorem Sf.one (t:Tok) (ts:List Tok):Sf (t::ts) ts 1:=⟨[t],rfl,Nat.le_refl _⟩
theorem Sf.trans {a b c:List Tok} {n m:Nat} (h:Sf a b n) (k:Sf b c m):Sf a c (n+m):=by
 obtain ⟨p,rfl,h⟩:=h;obtain ⟨q,rfl,k⟩:=k;exact ⟨p++q,by simp,by rw [length_append];omega⟩
theorem Sf.le {a b:List Tok} {n m:Nat} (h:Sf a b n) (k:m<=n):Sf a b m:=by
 obtain ⟨p,rfl,h⟩:=h;exact ⟨p,rfl,by omega⟩
theorem Sf.ok {a b:List Tok} {n:Nat} (h:Sf a b n) (k:rv a):rv b:=by
 obtain ⟨p,rfl,h⟩:=h
 exact fun t ht=>k t (List.mem_append_right _ ht)
theorem Sf.aL {e:Int} {s:ah} {ts r:List Tok} (hs:s≠[]) (h:aL e s ts=.ok r):Sf ts r 1:=by
 obtain ⟨u,rfl,_⟩:=wz hs h;exact .one u r
theorem Sf.sign {s:ah} {ts:List Tok} (hs:s≠[]) (h:sign ts 0=s):Sf ts ts.tail 1:=by
 obtain ⟨u,h1,_⟩:=tF hs h;rw [h1];exact .one u _
theorem Qg {s:ah} (h:jM s=false):words.contains s=false:=by
 unfold jM at h;rw [ya] at h
 cases hc:words.contains s with
 | false=>rfl
 | true =>
  rw [contains_iff_mem] at hc
  have:(words++bG).contains s=true:=by rw [contains_iff_mem];exact List.mem_append_left _ hc
  rw [h] at this;cases this
theorem W4 {t:Tok} (h:AD t) (hk:t.kind=2) (hl:t.s.length<=12):bp t.s=true:=by
 obtain ⟨h1,h2⟩:=h.name hk;unfold bp;rw [h1,Qg h2];simpa using hl
theorem Sf.name {e:Int} {s:ah} {ts r:List Tok} (h:name e ts=.ok (s,r)) (ho:rv ts):Sf ts r 1/\bp s=true:=by
 obtain ⟨u,rfl,h1,rfl,h3⟩:=FV h;exact ⟨.one u r,W4 (ho u mem_cons_self) h1 h3⟩
theorem R5 {s:ah} {k:Nat} (h:s∈levels.getD k []):eA s=true:=by
 unfold eA;rw [any_eq_true];rw [List.getD_eq_getElem?_getD] at h
 cases hk:levels[k]? with
 | none=>rw [hk] at h;simp at h
 | some l =>
  rw [hk] at h;exact ⟨l,mem_of_getElem? hk,by rw [contains_iff_mem];exact h⟩
theorem iZ (k a:Int) (s:ah) (l:List T):aP (one k a s l)=az l+1:=by unfold one;rw [aP]
theorem Lk.snoc {l:List T} {t:T} (h:Lk l) (k:EF t):Lk (l++[t]):=by
 obtain ⟨es,h1,h2⟩:=h;obtain ⟨a,h3,h4⟩:=k
 have key:∀ es:List E,E.cM es=true->E.cM (es++[a])=true/\E.trees (es++[a])=E.trees es++[a.tree]:=by
  intro es
  induction es with
  | nil=>intro _;simp [E.cM,E.trees,h3]
  | cons b es ih =>
   intro h;simp only [E.cM,Bool.and_eq_true] at h;obtain ⟨k1,k2⟩:=ih h.2;simp only [cons_append,E.cM,E.trees,k1,k2,h.1];simp
 obtain ⟨k1,k2⟩:=key es h1;exact ⟨es++[a],k1,by rw [H3,h2,k2,aM,aM,h4]⟩
def vl:ox->Nat
 | .loop _ _ out=>aP out
 | _=>0
def jok:ox->Prop
 | .loop _ _ out=>EF out
 | _=>True
theorem S4 (e:Int):∀ f,(∀ j ts t r,rv ts->jok j->rd e f j ts=.ok (t,r)->EF t/\∃ n,Sf ts r n/\aP t<=n+vl j) /\
  (∀ d acc ts l r,rv ts->Lk acc->rd.args e f d acc ts=.ok (l,r)->Lk l/\∃ n,Sf ts r n/\az l+1<=n+az acc):=by
 intro f
 induction f with
 | zero=>exact ⟨fun j ts t r _ _ h=>by simp [rd] at h,fun d acc ts l r _ _ h=>by simp [rd.args] at h⟩
 | succ f ih =>
  obtain ⟨ih,xS⟩:=ih;refine ⟨fun j ts t r ho hj h=>?_,fun d acc ts l r ho hj h=>?_⟩
  ·cases j with
   | expr d =>
    rw [rd] at h;split at h
    ·cases h
    ·exact ih (.level 0 (d+1)) ts t r ho trivial h
   | level k d =>
    rw [rd] at h;split at h
    ·exact ih (.operand d) ts t r ho trivial h
    ·split at h
     ·cases h
     ·rename_i out iH hx;obtain ⟨h1,n,h2,h3⟩:=ih (.level (k+1) d) ts out iH ho trivial hx;obtain ⟨k1,m,k2,k3⟩:=ih (.loop k d out) iH t r (h2.ok ho) h1 h;exact ⟨k1,n+m,h2.trans k2,by simp only [vl] at *;omega⟩
   | loop k d out =>
    cases ts with
    | nil=>rw [rd] at h;cases h;exact ⟨hj,0,.nil _,by simp only [vl];omega⟩
    | cons t0 r0 =>
     rw [rd] at h;split at h
     ·rename_i hc;split at h
      ·cases h
      ·rename_i b r1 hx;obtain ⟨⟨b',h0,h1⟩,n,h2,h3⟩:=ih (.level (k+1) d) r0 b r1 (fun t ht=>ho t (mem_cons_of_mem _ ht)) trivial hx;obtain ⟨o',h4,h5⟩:=hj;have h6:=(Sf.one t0 r0).trans h2;obtain ⟨k1,m,k2,k3⟩:=ih (.loop k d (one 6 t0.at_ t0.s [out,b])) r1 t r (h6.ok ho) ⟨.bin t0.s o' b',by simp only [E.ok,R5 hc.2,h4,h0];rfl,by rw [dD,aM,aM,aM,h5,h1,E.tree]⟩ h;refine ⟨k1,_,h6.trans k2,?_⟩;simp only [vl,iZ,az] at *;omega
     ·cases h;exact ⟨hj,0,.nil _,by simp only [vl];omega⟩
   | operand d =>
    cases ts with
    | nil =>
     rw [rd] at h;split at h <;> cases h
    | cons t0 r0 =>
     rw [rd] at h;split at h
     ·cases h
     ·have XU:rv r0:=fun t ht=>ho t (mem_cons_of_mem _ ht)
      have rF:=Sf.one t0 r0;split at h
      ·split at h
       ·rename_i hu;split at h
        ·cases h
        ·rename_i a r1 hx;cases h;obtain ⟨⟨a',h0,h1⟩,n,h2,h3⟩:=ih (.operand (d+1)) r0 a r XU trivial hx;refine ⟨⟨.un t0.s a',?_,by rw [dD,aM,aM,h1,E.tree]⟩,_,rF.trans h2,?_⟩
         ·simp only [E.ok,h0]
          rcases hu with hu | hu | hu <;> simp [hu]
         ·simp only [vl,iZ,az] at *;omega
       ·split at h
        ·split at h
         ·cases h
         ·rename_i a r1 hx;split at h
          ·cases h
          ·rename_i r2 hm;cases h;obtain ⟨h1,n,h2,h3⟩:=ih (.expr (d+1)) r0 t r1 XU trivial hx;exact ⟨h1,_,(rF.trans h2).trans (Sf.aL au hm),by simp only [vl] at *;omega⟩
        ·cases h
      ·split at h
       ·rename_i hk;cases h;obtain ⟨k1,k2,k3⟩:=(ho t0 mem_cons_self).num hk;exact ⟨⟨.num t0.n,by simp only [E.ok];simp [k1,k2],by rw [er,aM,E.tree]⟩,1,rF,by simp only [vl,aP,az];omega⟩
       ·split at h
        ·cases h
        ·rename_i s r1 eK;obtain ⟨k1,k2⟩:=Sf.name eK ho;split at h
         ·rename_i hb;have k3:=k1.trans (Sf.sign au hb);split at h
          ·cases h
          ·rename_i a r2 hx;split at h
           ·cases h
           ·rename_i r3 hm;cases h;obtain ⟨⟨a',h0,h1⟩,n,h2,h3⟩:=ih (.expr (d+1)) _ a r2 (k3.ok ho) trivial hx;refine ⟨⟨.at_ s a',by simp only [E.ok,k2,h0];rfl,by rw [dD,aM,aM,h1,E.tree]⟩,_,(k3.trans h2).trans (Sf.aL au hm),?_⟩;simp only [vl,iZ,az] at *;omega
         ·split at h
          ·rename_i hb;have k3:=k1.trans (Sf.sign au hb);split at h
           ·cases h
           ·rename_i l r2 hx;cases h;obtain ⟨⟨es,h0,h1⟩,n,h2,h3⟩:=xS _ _ _ l r (k3.ok ho) ⟨[],rfl,rfl⟩ hx;refine ⟨⟨.call s es,by simp only [E.ok,k2,h0];rfl,by rw [dD,h1,E.tree]⟩,_,k3.trans h2,?_⟩;simp only [vl,iZ,az] at *;omega
          ·cases h;exact ⟨⟨.name s,by simp only [E.ok,k2],by rw [dD,aM,E.tree]⟩,1,k1,by simp only [vl,iZ,az];omega⟩
  ·rw [rd.args] at h;split at h
   ·rename_i hc;cases h;exact ⟨hj,1,Sf.sign au hc,by omega⟩
   ·split at h
    ·cases h
    ·rename_i yc hx
     have h0:Sf ts yc 0:=by
      split at hx
      ·cases hx;exact .nil _
      ·exact (Sf.aL au hx).le (Nat.zero_le _)
     split at h
     ·cases h
     ·rename_i a vK hy;obtain ⟨h1,n,h2,h3⟩:=ih (.expr d) yc a vK (h0.ok ho) trivial hy;have h4:=h0.trans h2;obtain ⟨k1,m,k2,k3⟩:=xS _ (acc++[a]) vK l r (h4.ok ho) (hj.snoc h1) h;refine ⟨k1,_,h4.trans k2,?_⟩;simp only [vl,mP,az] at *;omega
theorem xt {e:Int} {d:Nat} {ts r:List Tok} {t:T} (ho:rv ts) (h:expr e d ts=.ok (t,r)):EF t/\Sf ts r (aP t):=by
 obtain ⟨h1,n,h2,h3⟩:=(S4 e _).1 (.expr d) ts t r ho trivial h;exact ⟨h1,h2.le (by simpa [vl] using h3)⟩
theorem wh {e:Int} {d:Nat} {a b:ah} {ts r:List Tok} {t:T} (ha:a≠[]) (hb:b≠[]) (ho:rv ts) (h:inner e d a b ts=.ok (t,r)):EF t/\Sf ts r (aP t+2):=by
 unfold inner at h;split at h
 ·cases h
 ·rename_i yc h1;have k1:=Sf.aL ha h1;split at h
  ·cases h
  ·rename_i t' vK h2;obtain ⟨k2,k3⟩:=xt (k1.ok ho) h2;split at h
   ·cases h
   ·rename_i ts3 h3;cases h;exact ⟨k2,((k1.trans k3).trans (Sf.aL hb h3)).le ao⟩
theorem Bv {e:Int} {d:Nat} {ts r:List Tok} {s:ah} {t:T} (ho:rv ts) (h:kF e d ts=.ok ((s,t),r)):bp s=true/\EF t/\Sf ts r (aP t+3):=by
 unfold kF at h;split at h
 ·cases h
 ·rename_i s' yc h1;obtain ⟨k1,k2⟩:=Sf.name h1 ho;split at h
  ·cases h
  ·rename_i t' vK h2;cases h;obtain ⟨k3,k4⟩:=wh au au (k1.ok ho) h2;exact ⟨k2,k3,(k1.trans k4).le ao⟩
def SF (t:T):Prop:=∃ a:S,a.ok=true/\er t=a.tree
def Lv (l:List T):Prop:=∃ es:List S,S.cM es=true/\aM l=S.trees es
def BF (t:T):Prop:=∃ l:List S,S.cM l=true/\er t=bF l
theorem Lv.snoc {l:List T} {t:T} (h:Lv l) (k:SF t):Lv (l++[t]):=by
 obtain ⟨es,h1,h2⟩:=h;obtain ⟨a,h3,h4⟩:=k
 have key:∀ es:List S,S.cM es=true->S.cM (es++[a])=true/\S.trees (es++[a])=S.trees es++[a.tree]:=by
  intro es
  induction es with
  | nil=>intro _;simp [S.cM,S.trees,h3]
  | cons b es ih =>
   intro h;simp only [S.cM,Bool.and_eq_true] at h;obtain ⟨k1,k2⟩:=ih h.2;simp only [cons_append,S.cM,S.trees,k1,k2,h.1];simp
 obtain ⟨k1,k2⟩:=key es h1;exact ⟨es++[a],k1,by rw [H3,h2,k2,aM,aM,h4]⟩
theorem P9 {t:T} (h:EF t) (hk:t.n.kind=3):∃ (s:ah) (a:T),t.kids=[a]/\t.n.s=s/\bp s=true/\EF a:=by
 obtain ⟨a,h1,h2⟩:=h;have h3:=congrArg (fun x=>x.n.kind) h2;simp only [xq,hk] at h3
 cases a with
 | at_ s b =>
  simp only [E.ok,Bool.and_eq_true] at h1
  have h4:t.n.s=s:=by have:=congrArg (fun x=>x.n.s) h2;simp only [xq] at this;exact this
  have h5:aM t.kids=[b.tree]:=by rw [<-Sn,h2];rfl
  match hl:t.kids,h5 with
  | [x],h5 =>
   rw [aM,aM] at h5
   injection h5 with h6
   exact ⟨s,x,rfl,h4,h1.1,b,h1.2,h6⟩
  | [],h5=>rw [aM] at h5;cases h5
  | x::y::r,h5=>rw [aM,aM] at h5;injection h5 with h6 h7;cases h7
 | num n=>simp [E.tree,T.n] at h3
 | name n=>simp [E.tree,T.n] at h3
 | call s l=>simp [E.tree,T.n] at h3
 | un s a=>simp [E.tree,T.n] at h3
 | bin s a b=>simp [E.tree,T.n] at h3
theorem Hx {e:Int} {d:Nat} {ts r:List Tok} {t:T} (ho:rv ts) (h:simple e d ts=.ok (t,r)):SF t/\Sf ts r (aP t):=by
 unfold simple at h;split at h
 ·split at h <;> cases h
 ·rename_i t0 r0;split at h
  ·split at h
   ·cases h
   ·rename_i s a yc h1;cases h;obtain ⟨k1,⟨a',k2,k3⟩,k4⟩:=Bv ho h1;exact ⟨⟨.set s a',by simp only [S.ok,k1,k2];rfl,by rw [dD,aM,aM,k3,S.tree]⟩,k4.le (by simp only [iZ,az];omega)⟩
  ·split at h
   ·cases h
   ·rename_i a yc h1;obtain ⟨k1,k2⟩:=xt ho h1;split at h
    ·rename_i hc;split at h
     ·cases h
     ·rename_i v vK h2;cases h;obtain ⟨⟨v',k3,k4⟩,k5⟩:=wh au au (k2.ok ho) h2;obtain ⟨s,x,k6,k7,k8,x',k9,k10⟩:=P9 k1 hc.1;have hz:=ef a;rw [k6] at hz;simp only [az] at hz;rw [k6];refine ⟨⟨.put s x' v',by simp only [S.ok,k8,k9,k3];rfl,?_⟩,(k2.trans k5).le ?_⟩
      ·rw [dD,k7];simp only [take_succ_cons,take_zero,cons_append,nil_append,aM,k10,k4,S.tree]
      ·simp only [take_succ_cons,take_zero,cons_append,nil_append,iZ,az];omega
    ·split at h
     ·cases h
     ·rename_i vK h2;cases h;obtain ⟨a',k3,k4⟩:=k1;exact ⟨⟨.do_ a',by simp only [S.ok,k3],by rw [dD,aM,aM,k4,S.tree]⟩,(k2.trans (Sf.aL au h2)).le (by simp only [iZ,az];omega)⟩
theorem S7 (e:Int):∀ f,(∀ d ts t r,rv ts->rs e f (.block d) ts=.ok (t,r)->BF t/\Sf ts r (aP t))/\(∀ d ts t r,rv ts->rs e f (.stmt d) ts=.ok (t,r)->SF t/\Sf ts r (aP t)) /\
  (∀ d acc ts l r,rv ts->Lv acc->rs.body e f d acc ts=.ok (l,r)->Lv l/\∃ n,Sf ts r n/\az l+1<=n+az acc):=by
 intro f
 induction f with
 | zero=>exact ⟨fun d ts t r _ h=>by simp [rs] at h,fun d ts t r _ h=>by simp [rs] at h,fun d acc ts l r _ _ h=>by simp [rs.body] at h⟩
 | succ f ih =>
  obtain ⟨X9,ihs,Ya⟩:=ih;refine ⟨fun d ts t r ho h=>?_,fun d ts t r ho h=>?_,fun d acc ts l r ho hj h=>?_⟩
  ·rw [rs] at h;split at h
   ·cases h
   ·split at h
    ·cases h
    ·rename_i r1 h1;have k1:=Sf.aL au h1;split at h
     ·cases h
     ·rename_i l r2 h2;cases h;obtain ⟨⟨es,k2,k3⟩,n,k4,k5⟩:=Ya _ [] r1 l r (k1.ok ho) ⟨[],rfl,rfl⟩ h2;exact ⟨⟨es,k2,by rw [dD,k3,bF]⟩,(k1.trans k4).le (by simp only [iZ,az] at *;omega)⟩
  ·rw [rs] at h;split at h
   ·cases h
   ·simp only at h;split at h
    ·rename_i hs;have k0:=Sf.sign au hs;split at h
     ·cases h
     ·rename_i s a yc h1;cases h;obtain ⟨k1,⟨a',k2,k3⟩,k4⟩:=Bv (k0.ok ho) h1;exact ⟨⟨.var s a',by simp only [S.ok,k1,k2];rfl,by rw [dD,aM,aM,k3,S.tree]⟩,(k0.trans k4).le (by simp only [iZ,az];omega)⟩
    ·split at h
     ·rename_i hs
      have k0:Sf ts ts.tail 1:=by
       rcases hs with hs | hs
       ·exact Sf.sign au hs
       ·exact Sf.sign au hs
      split at h
      ·cases h
      ·rename_i c r1 h1;obtain ⟨⟨c',k1,k2⟩,k3⟩:=wh au au (k0.ok ho) h1;have k4:=k0.trans k3;split at h
       ·cases h
       ·rename_i b r2 h2;obtain ⟨⟨lb,k5,k6⟩,k7⟩:=X9 _ _ b r2 (k4.ok ho) h2;have k8:=k4.trans k7;split at h
        ·split at h
         ·rename_i eX;have k9:=k8.trans (Sf.sign au eX);split at h
          ·cases h
          ·rename_i b2 r3 h3;cases h;obtain ⟨⟨lb2,j5,j6⟩,j7⟩:=X9 _ _ b2 r (k9.ok ho) h3;refine ⟨⟨.if2 c' lb lb2,by simp only [S.ok,k1,k5,j5];rfl,?_⟩,(k9.trans j7).le (by simp only [iZ,az];omega)⟩;rw [dD,aM,aM,aM,aM,k2,k6,j6,S.tree,bF,bF]
         ·cases h;refine ⟨⟨.if1 c' lb,by simp only [S.ok,k1,k5];rfl,?_⟩,k8.le (by simp only [iZ,az];omega)⟩;rw [dD,aM,aM,aM,k2,k6,S.tree,bF]
        ·cases h;refine ⟨⟨.while_ c' lb,by simp only [S.ok,k1,k5];rfl,?_⟩,k8.le (by simp only [iZ,az];omega)⟩;rw [dD,aM,aM,aM,k2,k6,S.tree,bF]
     ·split at h
      ·rename_i hs;have k0:=Sf.sign au hs;split at h
       ·cases h
       ·rename_i a yc h1;obtain ⟨⟨a',k1,k2⟩,k3⟩:=xt (k0.ok ho) h1;split at h
        ·cases h
        ·rename_i vK h2;cases h;exact ⟨⟨.ret a',by simp only [S.ok,k1],by rw [dD,aM,aM,k2,S.tree]⟩,((k0.trans k3).trans (Sf.aL au h2)).le (by simp only [iZ,az];omega)⟩
      ·exact Hx ho h
  ·rw [rs.body] at h;split at h
   ·rename_i hc;cases h;exact ⟨hj,1,Sf.sign au hc,by omega⟩
   ·split at h
    ·cases h
    ·rename_i a yc h1;obtain ⟨k1,k2⟩:=ihs _ ts a yc ho h1;obtain ⟨k3,m,k4,k5⟩:=Ya _ (acc++[a]) yc l r (k2.ok ho) (hj.snoc k1) h;refine ⟨k3,_,k2.trans k4,?_⟩;simp only [mP,az] at *;omega
theorem JA {e:Int} {d:Nat} {ts r:List Tok} {t:T} (ho:rv ts) (h:block e d ts=.ok (t,r)):BF t/\Sf ts r (aP t):=(S7 e _).1 _ ts t r ho h
end Go.Im
namespace Go.Sp
open Go.Xp
def dW (x:ah) (l:List K):Prop:=∀ pre post:ah,∃ ts,ts.map kf=l/\Tz (pre++(x++post)) pre.length ts (pre.length+x.length)
def gq (x:ah) (l:List K):Prop:=∀ pre post:ah,Sep post->∃ ts,ts.map kf=l/\Tz (pre++(x++post)) pre.length ts (pre.length+x.length)
theorem dW.s {x:ah} {l:List K} (h:dW x l):gq x l:=fun pre post _=>h pre post
theorem dW.app {x y:ah} {l m:List K} (h:dW x l) (k:dW y m):dW (x++y) (l++m):=by
 intro pre post;obtain ⟨ts,h1,h2⟩:=h pre (y++post);obtain ⟨us,h3,h4⟩:=k (pre++x) post;refine ⟨ts++us,by simp [h1,h3],?_⟩;rw [append_assoc] at h4 |-;rw [length_append] at h4 |-;rw [<-Nat.add_assoc];exact h2.app h4
theorem dW.apps {x y:ah} {l m:List K} (h:dW x l) (k:gq y m):gq (x++y) (l++m):=by
 intro pre post hp;obtain ⟨ts,h1,h2⟩:=h pre (y++post);obtain ⟨us,h3,h4⟩:=k (pre++x) post hp;refine ⟨ts++us,by simp [h1,h3],?_⟩;rw [append_assoc] at h4 |-;rw [length_append] at h4 |-;rw [<-Nat.add_assoc];exact h2.app h4
theorem gq.Eo {x y:ah} {l m:List K} (h:gq x l) (k:dW y m) (hs:∀ post,Sep (y++post)):dW (x++y) (l++m):=by
 intro pre post;obtain ⟨ts,h1,h2⟩:=h pre (y++post) (hs post);obtain ⟨us,h3,h4⟩:=k (pre++x) post;refine ⟨ts++us,by simp [h1,h3],?_⟩;rw [append_assoc] at h4 |-;rw [length_append] at h4 |-;rw [<-Nat.add_assoc];exact h2.app h4
theorem dW.nil:dW [] []:=fun pre post=>⟨[],rfl,.nil _⟩
theorem x8 {c:UInt8} {x:ah} (h:c∈Cv):∀ post,Sep (c::x++post):=fun post d hd=>by cases hd;exact h
theorem sT {pre x:ah}:(pre++x).drop pre.length=x:=drop_left
theorem Tz.one {s:ah} {a a':Nat} {c:UInt8} {t:Tok} (hc:s[a]?=some c) (hb:dA c=false) (hr:bx s a [47,42]=false) (ht:iJ s a c=(t,a')) (hk:t.kind=1\/t.kind=2\/t.kind=3) (hn:t.n<=2147483647) (ha:a < a'):Tz s a [t] a' :=
 .tok hc hb hr ht hk hn ha (.nil _)
theorem xX {c:UInt8} (h:dA c=true):dW [c] []:=by
 intro pre post;have hd:(pre++([c]++post)).drop pre.length=c::post:=sT;obtain ⟨h1,_,_⟩:=mK hd;exact ⟨[],rfl,.blank h1 h (.nil _)⟩
theorem l7 {c:UInt8} (hm:c∈[40,41,91,93,44,59,123,125]):dW [c] [kS [c]]:=by
 intro pre post;have hd:(pre++([c]++post)).drop pre.length=c::post:=sT;obtain ⟨h1,_,h4⟩:=mK hd;obtain ⟨h2,h3,h5⟩:=Pb (Nat.le_of_lt h4) hd hm;exact ⟨[_],rfl,Tz.one h1 h3 h5 h2 (by simp) (by simp) (by simp)⟩
theorem Ad {w:ah} (hm:w∈bG):gq w [kS w]:=by
 intro pre post hp;have hd:(pre++(w++post)).drop pre.length=w++post:=sT
 have bP:w≠[]:=by rintro rfl;revert hm;decide
 obtain ⟨c,r,hw⟩:=List.exists_cons_of_ne_nil bP;have dd:=hd;rw [hw,cons_append] at dd;obtain ⟨h1,_,h4⟩:=mK dd;rw [<-cons_append,<-hw] at h1 h4;obtain ⟨h2,h3,h5⟩:=Qi (Nat.le_of_lt h4) hd hw hm hp
 have:0 < w.length:=by rw [hw];simp
 exact ⟨[_],rfl,Tz.one h1 h3 h5 h2 (by simp) (by simp) ao⟩
theorem Hy {c:UInt8} (h:small c=true):dA c=false/\c≠47:=by
 simp only [small,Bool.and_eq_true] at h;have h1:=of_decide_eq_true h.1;refine ⟨?_,fun h0=>?_⟩
 ·simp only [dA,Bool.or_eq_false_iff,beq_eq_false_iff_ne];omega
 ·subst h0;revert h1;decide
theorem Ds {s r:ah} {a:Nat} {c:UInt8} (h:s.drop a=c::r) (hc:c≠47):bx s a [47,42]=false:=by
 obtain ⟨_,_,h4⟩:=mK h;rw [uA h (Nat.le_of_lt h4)];simp only [List.isPrefixOf]
 have:((47:UInt8)==c)=false:=by rw [beq_eq_false_iff_ne];exact fun h=>hc h.symm
 rw [this,Bool.false_and]
theorem FH {w:ah} (hw:word w=true):gq w [if words.contains w then kS w else kN w]:=by
 intro pre post hp;have hd:(pre++(w++post)).drop pre.length=w++post:=sT;simp only [word,Bool.and_eq_true,all_eq_true] at hw
 match w,hw,hd with
 | [],hw,_=>simp at hw
 | c::r,hw,hd =>
  obtain ⟨aQ,hs⟩:=hw;have dd:=hd;rw [cons_append] at dd;obtain ⟨h1,_,h4⟩:=mK dd;obtain ⟨h3,h5⟩:=Hy hs;have ht:=QG (Nat.le_of_lt h4) hd rfl hs aQ hp.dN;refine ⟨[_],?_,Tz.one h1 h3 (Ds dd h5) ht ?_ (by simp) (by simp)⟩
  ·simp only [List.map_cons,List.map_nil,kf,kS,kN];split <;> rfl
  ·simp only;split <;> simp
theorem jO {w:ah} (hw:bp w=true):gq w [kN w]:=by
 simp only [bp,Bool.and_eq_true,Bool.not_eq_true'] at hw;have:=FH hw.1.1;rw [if_neg (by rw [hw.2];decide)] at this;exact this
theorem Nx {w:ah} (hw:w∈words):gq w [kS w]:=by
 have h1:∀ w∈words,word w=true:=by decide
 have:=FH (h1 w hw);rw [if_pos (by simpa using hw)] at this;exact this
theorem IM {n:Nat} (hn:n<=2147483647):gq (cB n) [kI n]:=by
 intro pre post hp;have hd:(pre++(cB n++post)).drop pre.length=cB n++post:=sT;obtain ⟨h1,h2,h3⟩:=HT n;obtain ⟨c,r,hw⟩:=List.exists_cons_of_ne_nil h3;have dd:=hd;rw [hw,cons_append] at dd;obtain ⟨h4,_,h5⟩:=mK dd;rw [<-cons_append,<-hw] at h4 h5;have hc:dT c=true:=h1 c (by rw [hw];exact mem_cons_self)
 have C6:dA c=false/\c≠47:=by
  simp only [dT,Bool.and_eq_true] at hc;have h1:=of_decide_eq_true hc.1;refine ⟨?_,fun h0=>?_⟩
  ·simp only [dA,Bool.or_eq_false_iff,beq_eq_false_iff_ne];omega
  ·subst h0;revert h1;decide
 have ht:=SV (Nat.le_of_lt h5) hd hw hn hp.dT
 have:0 < (cB n).length:=by rw [hw];simp
 refine ⟨[_],rfl,Tz.one h4 C6.1 ?_ ht (by simp) (by simpa using by omega) ao⟩;have AW:=dd;rw [<-cons_append,<-hw] at AW;rw [hw] at AW |-;exact Ds AW C6.2
theorem Vn {s:ah} (h:eA s=true):s∈bG:=by
 have hm:s∈levels.flatten:=by
  unfold eA at h;rw [any_eq_true] at h;obtain ⟨l,hl,hc⟩:=h;exact List.mem_flatten.2 ⟨l,hl,by simpa using hc⟩
 have key:∀ s∈levels.flatten,s∈bG:=by decide
 exact key s hm
theorem KS:dW [32] []:=xX au
theorem gq.then {x:ah} {l:List K} (h:gq x l) {c:UInt8} (hm:c∈[40,41,91,93,44,59,123,125]):dW (x++[c]) (l++[kS [c]]) :=
 h.Eo (l7 hm) (x8 (by revert hm;unfold Cv;simp only [List.mem_cons,List.not_mem_nil,or_false];rintro (h | h | h | h | h | h | h | h) <;> simp [h]))
theorem gq.sp {x:ah} {l:List K} (h:gq x l):dW (x++[32]) l:=by
 have:=h.Eo KS (x8 au);rw [append_nil] at this;exact this
theorem gq.eq {x:ah} {l l':List K} (h:gq x l) (e:l=l'):gq x l':=e ▸ h
theorem dW.eq {x:ah} {l l':List K} (h:dW x l) (e:l=l'):dW x l':=e ▸ h
theorem Cd {lv k:Nat} {x:ah} {l:List K} (h:gq x l):gq (qn lv k x) (brk lv k l):=by
 unfold qn brk;split
 ·have:=((l7 (c:=40) au).apps h).then (c:=41) au;exact this.s.eq (by simp)
 ·exact h
mutual
theorem oX:∀ a:E,a.ok=true->gq a.txt a.tk
 | .num n,h=>by
  simp only [E.ok,Bool.and_eq_true] at h;have h1:=of_decide_eq_true h.1;have h2:=of_decide_eq_true h.2;have:=IM (n:=n.toNat) ao;rw [E.txt,E.tk];rw [Int.toNat_of_nonneg h1] at this;exact this
 | .name s,h=>by rw [E.txt,E.tk];exact jO h
 | .at_ s a,h=>by
  simp only [E.ok,Bool.and_eq_true] at h;rw [E.txt,E.tk];exact ((((jO h.1).then (c:=91) au).apps (oX a h.2)).then (c:=93) au).s.eq (by simp)
 | .call s l,h=>by
  simp only [E.ok,Bool.and_eq_true] at h;rw [E.txt,E.tk];exact ((((jO h.1).then (c:=40) au).apps (WU l h.2)).then (c:=41) au).s.eq (by simp)
 | .un s a,h=>by
  simp only [E.ok,Bool.and_eq_true,Bool.or_eq_true,beq_iff_eq] at h;rw [E.txt,E.tk]
  have hs:s∈bG:=by rcases h.1 with (h | h) | h <;> (rw [h];decide)
  exact ((Ad hs).sp.apps (Cd (oX a h.2))).eq (by simp)
 | .bin s a b,h=>by
  simp only [E.ok,Bool.and_eq_true] at h;rw [E.txt,E.tk];exact ((((Cd (oX a h.1.2)).sp.apps (Ad (Vn h.1.1))).sp).apps (Cd (oX b h.2))).eq (by simp)
theorem WU:∀ l:List E,E.cM l=true->gq (bC (E.cL l)) (E.mG l)
 | [],_=>dW.nil.s
 | a::l,h=>by
  simp only [E.cM,Bool.and_eq_true] at h;rw [E.cL,E.mG,bC];exact Ry l h.2 _ _ (oX a h.1)
theorem Ry:∀ l:List E,E.cM l=true->∀ x m,gq x m->gq (x++(E.cL l).flatMap fun y=>44::32::y) (m++E.qc l)
 | [],_,x,m,hx=>by rw [E.cL,E.qc];simpa using hx
 | a::l,h,x,m,hx=>by
  simp only [E.cM,Bool.and_eq_true] at h;have h1:=((hx.then (c:=44) au).app KS).apps (oX a h.1);have h2:=Ry l h.2 _ _ h1;rw [E.cL,E.qc,flatMap_cons]
  have e1:x++((44::32::a.txt)++(E.cL l).flatMap fun y=>44::32::y)=(x++[44]++[32]++a.txt)++(E.cL l).flatMap fun y=>44::32::y:=by simp
  rw [e1];exact h2.eq (by simp)
end
theorem gq.set {x:ah} {l:List K} (h:gq x l):dW (x++[32,61,32]) (l++[kS [61]]):=by
 have:=(h.sp.apps (Ad (w:=[61]) au)).sp;simpa using this
theorem ue {w:ah} (hw:w∈words):dW (w++[32]) [kS w]:=(Nx hw).sp
mutual
theorem WV:∀ s:S,s.ok=true->dW (s.txt E.txt) s.tk
 | .set s a,h=>by
  simp only [S.ok,Bool.and_eq_true] at h;rw [S.txt,S.tk];exact (((jO h.1).set.apps (oX a h.2)).then (c:=59) au).eq (by simp)
 | .put s a b,h=>by
  simp only [S.ok,Bool.and_eq_true] at h;rw [S.txt,S.tk];have h1:=((((jO h.1).then (c:=91) au).apps (oX a h.2.1)).then (c:=93) au).s.set;have h2:=(h1.apps (oX b h.2.2)).then (c:=59) au
  have e:s++[91]++a.txt++[93,32,61,32]++b.txt++[59]=s++[91]++a.txt++[93]++[32,61,32]++b.txt++[59]:=by simp
  rw [e];exact h2.eq (by simp)
 | .if1 c b,h=>by
  simp only [S.ok,Bool.and_eq_true] at h;rw [S.txt,S.tk];have h1:=((((ue (w:=[105,102]) au).app (l7 (c:=40) au)).apps (oX c h.1)).then (c:=41) au).s.sp;have h2:=h1.app (lexB b h.2)
  have e:[105,102,32,40]++c.txt++[41,32]++(S.cL E.txt [123,32] b++[125])=[105,102]++[32]++[40]++c.txt++[41]++[32]++(S.cL E.txt [123,32] b++[125]):=by simp
  rw [e];exact h2.eq (by simp [dL])
 | .if2 c b b2,h=>by
  simp only [S.ok,Bool.and_eq_true] at h;rw [S.txt,S.tk];have h1:=((((ue (w:=[105,102]) au).app (l7 (c:=40) au)).apps (oX c h.1)).then (c:=41) au).s.sp;have h2:=h1.app (lexB b h.2.1);have h3:=((h2.s.sp.apps (Nx (w:=[101,108,115,101]) au)).sp).app (lexB b2 h.2.2)
  have e:[105,102,32,40]++c.txt++[41,32]++(S.cL E.txt [123,32] b++[125])++[32,101,108,115,101,32]++(S.cL E.txt [123,32] b2++[125])=[105,102]++[32]++[40]++c.txt++[41]++[32]++(S.cL E.txt [123,32] b++[125])++[32]++[101,108,115,101]++[32]++(S.cL E.txt [123,32] b2++[125]):=by simp
  rw [e];exact h3.eq (by simp [dL,ed])
 | .while_ c b,h=>by
  simp only [S.ok,Bool.and_eq_true] at h;rw [S.txt,S.tk];have h1:=((((ue (w:=[119,104,105,108,101]) au).app (l7 (c:=40) au)).apps (oX c h.1)).then (c:=41) au).s.sp;have h2:=h1.app (lexB b h.2)
  have e:[119,104,105,108,101,32,40]++c.txt++[41,32]++(S.cL E.txt [123,32] b++[125])=[119,104,105,108,101]++[32]++[40]++c.txt++[41]++[32]++(S.cL E.txt [123,32] b++[125]):=by simp
  rw [e];exact h2.eq (by simp [dr])
 | .ret a,h=>by
  simp only [S.ok] at h;rw [S.txt,S.tk];have h1:=((ue (w:=[114,101,116,117,114,110]) au).apps (oX a h)).then (c:=59) au;exact h1.eq (by simp [dc])
 | .do_ a,h=>by
  simp only [S.ok] at h;rw [S.txt,S.tk];exact (oX a h).then (c:=59) au
 | .var s a,h=>by
  simp only [S.ok,Bool.and_eq_true] at h;rw [S.txt,S.tk];have h1:=((((ue (w:=[118,97,114]) au).apps (jO h.1)).set).apps (oX a h.2)).then (c:=59) au;exact h1.eq (by simp [gm])
theorem lexB:∀ l:List S,S.cM l=true->dW (S.cL E.txt [123,32] l++[125]) (kS [123]::(S.mG l++[kS [125]]))
 | l,h=>by
  have h0:dW [123,32] [kS [123]]:=by
   have:=(l7 (c:=123) au).s.sp;simpa using this
  exact ((Rz l h _ _ h0).s.then (c:=125) au).eq (by simp)
theorem Rz:∀ l:List S,S.cM l=true->∀ acc m,dW acc m->dW (S.cL E.txt acc l) (m++S.mG l)
 | [],_,acc,m,h=>by rw [S.cL,S.mG,append_nil];exact h
 | a::l,ho,acc,m,h=>by
  simp only [S.cM,Bool.and_eq_true] at ho;rw [S.cL,S.mG];have h1:=(h.app (WV a ho.1)).s.sp;exact (Rz l ho.2 _ _ h1).eq (by simp)
end
theorem dW.all {x:ah} {l:List K} (h:dW x l):∃ ts,ts.map kf=l/\Tz x 0 ts x.length:=by
 obtain ⟨ts,h1,h2⟩:=h [] [];exact ⟨ts,h1,by simpa using h2⟩
theorem IK {l:List S} (h:S.cM l=true):dW (eV E.txt l) (Jz l):=lexB l h
end Go.Sp
namespace Go.Im
open Go.Xp Go.Sp
def Mx (s:ah):List K:=[kS lj,kN s,kS [59]]
def HF (a:Ar):List K:=[kS lj,kN a.name,kS [91],kI a.size,kS [93],kS [59]]
def uI:List ah->List K
 | []=>[]
 | s::r=>kS [44]::kN s::uI r
def F1:List ah->List K
 | []=>[]
 | s::r=>kN s::uI r
def H8 (x:Fn × List S):List K:=kS mD::kN x.1.name::kS [40]::(F1 x.1.params++kS [41]::Jz x.2)
def f2 (x:Fn × List S):ah:=((((([102,117,110,99,32]++x.1.name)++[40])++bC x.1.params)++[41,32])++eV E.txt x.2)++[10]
theorem IL:dW [59,10] [kS [59]]:=(l7 (c:=59) au).app (xX (c:=10) au)
theorem WY {s:ah} (h:bp s=true):dW (g1 s) (Mx s) :=
 ((ue (w:=lj) au).apps (jO h)).Eo IL (x8 (c:=59) (x:=[10]) au)
theorem WW {a:Ar} (h:oo a=true):dW (a1 a) (HF a):=by
 unfold oo at h;simp only [Bool.and_eq_true,Bool.not_eq_true',decide_eq_false_iff_not] at h;obtain ⟨⟨h1,h2⟩,h3⟩:=h
 have hz:nW a.size=cB a.size.toNat:=by unfold nW;rw [if_neg h2]
 have hk:kI a.size=kI ((a.size.toNat:Nat):Int):=by rw [Int.toNat_of_nonneg ao]
 have x1:=((ue (w:=lj) au).apps (jO h1)).then (c:=91) au;have x2:=x1.apps (IM (n:=a.size.toNat) ao);have x3:=x2.Eo ((l7 (c:=93) au).app IL) (x8 (c:=93) (x:=[59,10]) au);unfold a1 HF;rw [hz,hk];exact x3
theorem Ny:∀ (ps:List ah),cw ps=true->∀ x m,gq x m->gq (x++ps.flatMap fun y=>44::32::y) (m++uI ps)
 | [],_,x,m,h=>by rw [List.flatMap_nil,append_nil,uI,append_nil];exact h
 | s::r,hp,x,m,h=>by
  unfold cw at hp;rw [all_cons,Bool.and_eq_true] at hp;have h1:=(h.then (c:=44) au).app KS;have h2:=h1.apps (jO hp.1);have h3:=Ny r hp.2 _ _ h2;rw [flatMap_cons,uI];refine gq.eq (cast (congrArg (fun z=>gq z _) ?_) h3) ?_
  ·simp
  ·simp
theorem WZ {ps:List ah} (h:cw ps=true):gq (bC ps) (F1 ps):=by
 match ps,h with
 | [],_=>exact dW.nil.s
 | s::r,h =>
  unfold cw at h;rw [all_cons,Bool.and_eq_true] at h;exact Ny r h.2 s [kN s] (jO h.1)
theorem WX {x:Fn × List S} (h1:bp x.1.name=true) (h2:cw x.1.params=true) (h3:S.cM x.2=true):dW (f2 x) (H8 x):=by
 have x1:=((ue (w:=mD) au).apps (jO h1)).then (c:=40) au;have x2:=(x1.apps (WZ h2)).Eo ((l7 (c:=41) au).app KS) (x8 (c:=41) (x:=[32]) au);have x3:=(x2.app (IK h3)).app (xX (c:=10) au);refine dW.eq x3 ?_;simp [H8]
theorem yF {α:Type} {f:α->ah} {k:α->List K}:∀ (l:List α),(∀ x∈l,dW (f x) (k x))->∀ acc m,dW acc m->dW (di f acc l) (m++l.flatMap k)
 | [],_,acc,m,h=>by rw [di,List.flatMap_nil,append_nil];exact h
 | x::l,hl,acc,m,h=>by
  rw [di,flatMap_cons,<-append_assoc];exact yF l (fun y hy=>hl y (mem_cons_of_mem _ hy)) _ _ (h.app (hl x mem_cons_self))
theorem LO {inl:List ah->Nat->ah}:∀ (fns:List Fn) (l:List T) (ls:List (List S)) (acc:ah),ls.length=l.length->(∀ (i:Nat) t b,l[i]?=some t->ls[i]?=some b->na cP inl 0 t=eV E.txt b) ->
  di (f1 cP inl) acc (fns.zip l)=di f2 acc (fns.zip ls)
 | [],l,ls,acc,_,_=>by simp [di]
 | f::r,[],[],acc,_,_=>by simp [di]
 | f::r,t::l,b::ls,acc,hl,h=>by
  have h0:=h 0 t b rfl rfl;rw [zip_cons_cons,zip_cons_cons,di,di,LO r l ls _ (by simpa using hl) fun i t' b' h1 h2=>h (i+1) t' b' (by simpa using h1) (by simpa using h2)];simp only [f1,f2,h0]
 | f::r,[],b::ls,acc,hl,_=>by simp at hl
 | f::r,t::l,[],acc,hl,_=>by simp at hl
section
variable {p q:RS} {ts r rest:List Tok} {u:Tok} {s:ah}
theorem qf (h:On p (u::r)):tok p 0=u:=by rw [On.tok h];rfl
theorem Aa (h:On p (u::r)) (hk:kf u=kS s):is p 0 s=true:=by
 obtain ⟨h1,h2⟩:=dR hk;unfold is;rw [qf h,h1,h2];simp
theorem J8 (h:On p (u::r)) {k:K} (hk:kf u=k) (hn:k.1=3->k.2.2≠s):is p 0 s=false:=by
 unfold is;rw [qf h];subst hk
 by_cases h3:u.kind=3
 ·have:=hn h3;simp only [kf] at this;simp [h3,this]
 ·simp [h3]
theorem tK (h:On p (u::r)) (hk:kf u=kS s):want p s=p.next:=by unfold want;rw [if_pos h.code,if_pos (Aa h hk)]
theorem xZ (h:On p (u::r)) (hk:kf u=kN s) (hl:bp s=true):bm p=p.next:=by
 obtain ⟨h1,h2⟩:=pW hk;have:=l8 hl;unfold bm;rw [if_pos h.code,qf h,if_pos h1,if_neg (by rw [h2];omega)]
theorem nx (h:On p (u::r)):On p.next r:=h.next.1
theorem ej (h:On p (u::r)):p.next.l=p.l/\p.next.e=p.e:=⟨h.next.2.1,h.next.2.2⟩
theorem ZH (h:On p (u::r)):p.i < p.l.length:=by
 have:=congrArg List.length h.rest;rw [length_drop,length_cons] at this;omega
theorem Vq (h:On p []):¬ p.i < p.l.length:=by
 have:=congrArg List.length h.rest;rw [length_drop,length_nil] at this;omega
theorem Iy {G f:Nat} {st:PS} (h:p.code≠0) (hg:1<=G):ni G f p st=some (p,st):=by
 obtain ⟨G,rfl⟩:∃ g',G=g'+1:=⟨G - 1,by omega⟩;rw [ni,if_neg (fun hc=>h hc.1)]
theorem yE {f:Nat} {acc:List ah} (h:p.code≠0) (hg:1<=f):oJ f acc p=some (acc,p):=by
 obtain ⟨f,rfl⟩:∃ g',f=g'+1:=⟨f - 1,by omega⟩;rw [oJ,if_neg (fun hc=>h hc.1),fD h]
end
theorem ZB {f:Nat} {p:RS} {st:PS} {ts rest:List Tok} {s:ah} (hp:On p (ts++rest)) (ht:ts.map kf=Mx s) (hs:bp s=true) :
  ∃ q,iW f p st=some (q,{ st with globals:=st.globals++[s] })/\bE p q (.ok rest):=by
 obtain ⟨u,r,rfl,h1,ht⟩:=map_cons ht;obtain ⟨v,r,rfl,h2,ht⟩:=map_cons ht;obtain ⟨w,rfl,h3⟩:=gQ ht;simp only [cons_append,nil_append] at hp;have p1:=nx hp;have p2:=nx p1;have p3:=nx p2;refine ⟨p.next.next.next,?_,p3,by rw [(ej p2).1,(ej p1).1,(ej hp).1],by rw [(ej p2).2,(ej p1).2,(ej hp).2]⟩;unfold iW;rw [if_pos (Aa hp h1),xZ p1 h2 hs,J8 p2 h3 au,if_neg (by rintro ⟨_,h⟩;cases h),tK p2 h3,qf p1,(pW h2).2]
theorem Zz {f:Nat} {p:RS} {st:PS} {ts rest:List Tok} {a:Ar} (hp:On p (ts++rest)) (ht:ts.map kf=HF a) (hs:bp a.name=true) :
  ∃ q,iW f p st=some (q,{ st with arrays:=st.arrays++[a] })/\bE p q (.ok rest):=by
 obtain ⟨u,r,rfl,h1,ht⟩:=map_cons ht;obtain ⟨v,r,rfl,h2,ht⟩:=map_cons ht;obtain ⟨w,r,rfl,h3,ht⟩:=map_cons ht;obtain ⟨x,r,rfl,h4,ht⟩:=map_cons ht;obtain ⟨y,r,rfl,h5,ht⟩:=map_cons ht;obtain ⟨z,rfl,h6⟩:=gQ ht;simp only [cons_append,nil_append] at hp;have p1:=nx hp;have p2:=nx p1;have p3:=nx p2;have p4:=nx p3;have p5:=nx p4;have p6:=nx p5;refine ⟨p.next.next.next.next.next.next,?_,p6,by rw [(ej p5).1,(ej p4).1,(ej p3).1,(ej p2).1,(ej p1).1,(ej hp).1],by rw [(ej p5).2,(ej p4).2,(ej p3).2,(ej p2).2,(ej p1).2,(ej hp).2]⟩;unfold iW;rw [if_pos (Aa hp h1),xZ p1 h2 hs,if_pos ⟨p2.code,Aa p2 h3⟩,qf p3,if_pos (PB h4).1,tK p4 h5,tK p5 h6,qf p1,(pW h2).2,(PB h4).2]
theorem Rq {rest:List Tok} {u:Tok} (hu:kf u=kS [41]):∀ (ps:List ah) (f:Nat) (acc:List ah) (p:RS) (ts:List Tok),ps.length < f->acc≠[]->cw ps=true->On p (ts++u::rest)->ts.map kf=uI ps ->
  ∃ q,oJ f acc p=some (acc++ps,q)/\bE p q (.ok rest)
 | [],f,acc,p,ts,hf,ha,_,hp,ht=>by
  obtain ⟨f,rfl⟩:∃ g',f=g'+1:=⟨f - 1,by omega⟩
  have:ts=[]:=by simpa [uI] using ht
  subst this;rw [nil_append] at hp;refine ⟨p.next,?_,nx hp,ej hp⟩;rw [oJ,if_neg (by rw [Aa hp hu];rintro ⟨_,h⟩;cases h),tK hp hu,append_nil]
 | s::ps,f,acc,p,ts,hf,ha,hn,hp,ht=>by
  obtain ⟨f,rfl⟩:∃ g',f=g'+1:=⟨f - 1,by omega⟩;rw [uI] at ht;obtain ⟨v,r,rfl,h1,ht⟩:=map_cons ht;obtain ⟨w,r,rfl,h2,ht⟩:=map_cons ht;unfold cw at hn;rw [all_cons,Bool.and_eq_true] at hn;simp only [cons_append] at hp;have p1:=nx hp;have p2:=nx p1
  have hal:acc.length≠0:=fun h=>ha (eq_nil_of_length_eq_zero h)
  rw [length_cons] at hf
  obtain ⟨q,h3,h4⟩:=Rq hu ps f (acc++[s]) p.next.next r ao (by simp) hn.2 p2 ht
  refine ⟨q,?_,h4.1,by rw [h4.2.1,(ej p1).1,(ej hp).1],by rw [h4.2.2,(ej p1).2,(ej hp).2]⟩;rw [oJ,if_pos ⟨hp.code,J8 hp h1 au⟩,if_neg hal,tK hp h1,qf p1,(pW h2).2,xZ p1 h2 hn.1,h3];simp
theorem WJ {rest:List Tok} {u:Tok} (hu:kf u=kS [41]) (ps:List ah) (f:Nat) (p:RS) (ts:List Tok) (hf:ps.length < f) (hn:cw ps=true) (hp:On p (ts++u::rest)) (ht:ts.map kf=F1 ps) :
  ∃ q,oJ f [] p=some (ps,q)/\bE p q (.ok rest):=by
 obtain ⟨f,rfl⟩:∃ g',f=g'+1:=⟨f - 1,by omega⟩
 match ps,hn,ht,hf with
 | [],_,ht,_ =>
  have:ts=[]:=by simpa [F1] using ht
  subst this;rw [nil_append] at hp;refine ⟨p.next,?_,nx hp,ej hp⟩;rw [oJ,if_neg (by rw [Aa hp hu];rintro ⟨_,h⟩;cases h),tK hp hu]
 | s::ps,hn,ht,hf =>
  rw [F1] at ht;obtain ⟨w,r,rfl,h2,ht⟩:=map_cons ht;unfold cw at hn;rw [all_cons,Bool.and_eq_true] at hn;simp only [cons_append] at hp;have p2:=nx hp;rw [length_cons] at hf
  obtain ⟨q,h3,h4⟩:=Rq hu ps f ([]++[s]) p.next r ao (by simp) hn.2 p2 ht
  refine ⟨q,?_,h4.1,by rw [h4.2.1,(ej hp).1],by rw [h4.2.2,(ej hp).2]⟩;rw [oJ,if_pos ⟨hp.code,J8 hp h2 (fun h=>by cases h)⟩,if_pos (by rfl),qf hp,(pW h2).2,xZ hp h2 hn.1,h3];rfl
def fW (p:RS):Nat:=40 * p.l.length+100
theorem F2:∀ ps:List ah,ps.length<=(uI ps).length
 | []=>Nat.zero_le _
 | s::r=>by have:=F2 r;rw [uI,length_cons,length_cons,length_cons];omega
theorem SY (ps:List ah):ps.length<=(F1 ps).length:=by
 cases ps with
 | nil=>exact Nat.zero_le _
 | cons s r=>have:=F2 r;rw [F1,length_cons,length_cons];omega
theorem On.len {p:RS} {ts:List Tok} (h:Go.Sp.On p ts):ts.length<=p.l.length:=by
 rw [<-h.rest,length_drop];omega
theorem Vb {f:Nat} {q:RS} {ts:List Tok} (hq:Go.Sp.On q ts) (hs:sL q.l) (hf:fW q<=f):∃ t q',iS f (.block 1) q=some (t,q')/\iP q q' t (block q.e 1 ts):=by
 obtain ⟨t,q',h1,h2⟩:=(is_ (mo ts)).block 1 ts q hq hs vP;have:=On.len hq;exact ⟨t,q',h1 f (by unfold KI mo;unfold fW at hf;omega),h2⟩
theorem ZA {f:Nat} {p:RS} {st:PS} {ts rest:List Tok} {x:Fn × List S} (hp:On p (ts++rest)) (hs:sL p.l) (hf:fW p<=f) (ht:ts.map kf=H8 x) (h1:bp x.1.name=true) (h2:cw x.1.params=true) (h3:S.cM x.2=true) :
  (eu x.2 1=true->∃ q t,iW f p st=some (q,{ st with trees:=st.trees++[t],fns:=st.fns++[(x.1.name,x.1.params)] })/\er t=bF x.2/\bE p q (.ok rest)) /\
  (eu x.2 1=false->∃ q dQ,iW f p st=some (q,dQ)/\q.code≠0):=by
 obtain ⟨u,r,rfl,k1,ht⟩:=map_cons ht;obtain ⟨v,r,rfl,k2,ht⟩:=map_cons ht;obtain ⟨w,r,rfl,k3,ht⟩:=map_cons ht;obtain ⟨A,r,rfl,k4,ht⟩:=db ht;obtain ⟨y,r,rfl,k5,ht⟩:=map_cons ht;simp only [cons_append,append_assoc] at hp;have p1:=nx hp;have p2:=nx p1;have p3:=nx p2
 have hl:p.next.next.next.l=p.l:=by rw [(ej p2).1,(ej p1).1,(ej hp).1]
 have hA:x.1.params.length<=A.length:=by have:=SY x.1.params;rw [<-k4,length_map] at this;exact this
 have cQ:=On.len p3;simp only [length_append] at cQ;rw [hl] at cQ
 have UD:x.1.params.length < f:=by unfold fW at hf;omega
 obtain ⟨q,h4,h5⟩:=WJ k5 x.1.params f p.next.next.next A UD h2 p3 k4
 have qw:q.l=p.l:=h5.2.1.trans hl;obtain ⟨t,q',h6,h7⟩:=Vb (f:=f) h5.1 (by rw [qw];exact hs) (by unfold fW at hf |-;rw [qw];exact hf);obtain ⟨r1,r2⟩:=Eu (e:=q.e) (d:=1) (rest:=rest) h3 ht
 have hw:iW f p st=some (q',{ st with trees:=st.trees++[t],fns:=st.fns++[(x.1.name,x.1.params)] }):=by
  unfold iW;rw [if_neg (by rw [J8 hp k1 au];decide),if_pos (Aa hp k1),xZ p1 k2 h1,tK p2 k3,h4];simp only;rw [if_pos h5.1.code,h6,qf p1,(pW k2).2]
 refine ⟨fun uF=>?_,fun uF=>?_⟩
 ·obtain ⟨t',j1,j2⟩:=r1 uF;rw [j2] at h7;obtain ⟨rfl,j3⟩:=h7;exact ⟨q',t,hw,j1,j3.1,j3.2.1.trans qw,j3.2.2.trans (h5.2.2.trans (by rw [(ej p2).2,(ej p1).2,(ej hp).2]))⟩
 ·obtain ⟨pos,j2⟩:=r2 uF;rw [j2] at h7;exact ⟨q',_,hw,bE.err h7⟩
theorem qK {G f:Nat} {p q:RS} {st dQ:PS} {u:Tok} {r:List Tok} (hp:On p (u::r)) (h:iW f p st=some (q,dQ)):ni (G+1) f p st=ni G f q dQ:=by
 rw [ni,if_pos ⟨hp.code,ZH hp⟩,h]
theorem Ru {f:Nat} {rest:List Tok}:∀ (gs:List ah) (p:RS) (st:PS) (ts:List Tok),On p (ts++rest)->ts.map kf=gs.flatMap Mx->cw gs=true ->
  ∃ q,bE p q (.ok rest)/\∀ G,ni (G+gs.length) f p st=ni G f q { st with globals:=st.globals++gs }
 | [],p,st,ts,hp,ht,_=>by
  have:ts=[]:=by simpa using ht
  subst this;exact ⟨p,On.self hp,fun G=>by simp⟩
 | s::gs,p,st,ts,hp,ht,hn=>by
  rw [flatMap_cons] at ht;obtain ⟨A,B,rfl,h1,h2⟩:=db ht;unfold cw at hn;rw [all_cons,Bool.and_eq_true] at hn;rw [append_assoc] at hp;obtain ⟨q,h3,h4⟩:=ZB (f:=f) (st:=st) hp h1 hn.1;obtain ⟨q',h5,h6⟩:=Ru gs q { st with globals:=st.globals++[s] } B h4.1 h2 hn.2;refine ⟨q',h4.tr h5,fun G=>?_⟩;obtain ⟨u,r,rfl,_,_⟩:=map_cons h1;rw [length_cons,<-Nat.add_assoc,qK hp h3,h6];simp
theorem Rr {f:Nat} {rest:List Tok}:∀ (as:List Ar) (p:RS) (st:PS) (ts:List Tok),On p (ts++rest)->ts.map kf=as.flatMap HF->as.all oo=true ->
  ∃ q,bE p q (.ok rest)/\∀ G,ni (G+as.length) f p st=ni G f q { st with arrays:=st.arrays++as }
 | [],p,st,ts,hp,ht,_=>by
  have:ts=[]:=by simpa using ht
  subst this;exact ⟨p,On.self hp,fun G=>by simp⟩
 | s::gs,p,st,ts,hp,ht,hn=>by
  rw [flatMap_cons] at ht;obtain ⟨A,B,rfl,h1,h2⟩:=db ht;rw [all_cons,Bool.and_eq_true] at hn;rw [append_assoc] at hp
  have eK:bp s.name=true:=by have:=hn.1;unfold oo at this;simp only [Bool.and_eq_true] at this;exact this.1.1
  obtain ⟨q,h3,h4⟩:=Zz (f:=f) (st:=st) hp h1 eK;obtain ⟨q',h5,h6⟩:=Rr gs q { st with arrays:=st.arrays++[s] } B h4.1 h2 hn.2;refine ⟨q',h4.tr h5,fun G=>?_⟩;obtain ⟨u,r,rfl,_,_⟩:=map_cons h1;rw [length_cons,<-Nat.add_assoc,qK hp h3,h6];simp
def V8 (x:Fn × List S):Prop:=bp x.1.name=true/\cw x.1.params=true/\S.cM x.2=true
theorem Rs {f:Nat}:∀ (xs:List (Fn × List S)) (p:RS) (st:PS) (ts:List Tok),On p ts->sL p.l->fW p<=f->ts.map kf=xs.flatMap H8->(∀ x∈xs,V8 x) ->
  ((xs.all fun x=>eu x.2 1)=true->∃ q l,(∀ G,xs.length < G->ni G f p st=some (q,{ st with trees:=st.trees++l,fns:=st.fns++xs.map fun x=>(x.1.name,x.1.params) }))/\q.code=0/\aM l=xs.map fun x=>bF x.2) /\
  ((xs.all fun x=>eu x.2 1)=false->∃ q dQ,(∀ G,xs.length < G->ni G f p st=some (q,dQ))/\q.code≠0)
 | [],p,st,ts,hp,_,_,ht,_=>by
  have:ts=[]:=by simpa using ht
  subst this;refine ⟨fun _=>⟨p,[],fun G hG=>?_,hp.code,by rw [aM];rfl⟩,fun h=>by cases h⟩;obtain ⟨G,rfl⟩:∃ g',G=g'+1:=⟨G - 1,by rw [length_nil] at hG;omega⟩;rw [ni,if_neg (fun hc=>Vq hp hc.2)];simp
 | x::xs,p,st,ts,hp,hs,hf,ht,hx=>by
  rw [flatMap_cons] at ht;obtain ⟨A,B,rfl,h1,h2⟩:=db ht;obtain ⟨x1,x2,x3⟩:=hx x mem_cons_self;obtain ⟨k1,k2⟩:=ZA (st:=st) hp hs hf h1 x1 x2 x3
  have bP:∃ u r,A++B=u::r:=by obtain ⟨u,r,rfl,_,_⟩:=map_cons h1;exact ⟨u,_,rfl⟩
  obtain ⟨u,r,hu⟩:=bP;rw [hu] at hp
  cases hb:eu x.2 1 with
  | false =>
   obtain ⟨q,dQ,k3,k4⟩:=k2 hb;refine ⟨fun h=>(by rw [all_cons,hb] at h;cases h),fun _=>⟨q,dQ,fun G hG=>?_,k4⟩⟩;obtain ⟨G,rfl⟩:∃ g',G=g'+1:=⟨G - 1,by rw [length_cons] at hG;omega⟩;rw [qK hp k3,Iy k4 (by rw [length_cons] at hG;omega)]
  | true =>
   obtain ⟨q,t,k3,k4,k5⟩:=k1 hb;have qw:q.l=p.l:=k5.2.1;obtain ⟨j1,j2⟩:=Rs (f:=f) xs q { st with trees:=st.trees++[t],fns:=st.fns++[(x.1.name,x.1.params)] } B k5.1 (by rw [qw];exact hs) (by unfold fW at hf |-;rw [qw];exact hf) h2 (fun y hy=>hx y (mem_cons_of_mem _ hy));rw [all_cons,hb,Bool.true_and];refine ⟨fun h=>?_,fun h=>?_⟩
   ·obtain ⟨q',l,j3,j4,j5⟩:=j1 h;refine ⟨q',t::l,fun G hG=>?_,j4,by rw [aM,k4,j5];rfl⟩;obtain ⟨G,rfl⟩:∃ g',G=g'+1:=⟨G - 1,by rw [length_cons] at hG;omega⟩;rw [qK hp k3,j3 G (by rw [length_cons] at hG;omega)];simp
   ·obtain ⟨q',dQ,j3,j4⟩:=j2 h;refine ⟨q',dQ,fun G hG=>?_,j4⟩;obtain ⟨G,rfl⟩:∃ g',G=g'+1:=⟨G - 1,by rw [length_cons] at hG;omega⟩;rw [qK hp k3,j3 G (by rw [length_cons] at hG;omega)]
theorem NO (G:List ah) (As:List Ar) (xs:List (Fn × List S)) (h1:cw G=true) (h2:As.all oo=true) (h3:∀ x∈xs,V8 x) :
  ∃ ts,Tz (di f2 (di a1 (di g1 [] G) As) xs) 0 ts (di f2 (di a1 (di g1 [] G) As) xs).length /\
  (sL ts->∀ (e:Int) (g f:Nat),ts.length+1<=g->40 * ts.length+100<=f ->
   ((xs.all fun x=>eu x.2 1)=true->∃ q l,ni g f ⟨ts,0,e,0,0⟩ .empty=some (q,⟨l,G,As,xs.map fun x=>(x.1.name,x.1.params)⟩)/\q.code=0/\aM l=xs.map fun x=>bF x.2) /\
   ((xs.all fun x=>eu x.2 1)=false->∃ q dQ,ni g f ⟨ts,0,e,0,0⟩ .empty=some (q,dQ)/\q.code≠0)):=by
 have l1:=yF (f:=g1) (k:=Mx) G (fun s hs=>WY (List.all_eq_true.1 h1 s hs)) [] [] dW.nil;have l2:=yF (f:=a1) (k:=HF) As (fun s hs=>WW (List.all_eq_true.1 h2 s hs)) _ _ l1;have l3:=yF (f:=f2) (k:=H8) xs (fun x hx=>by obtain ⟨a,b,c⟩:=h3 x hx;exact WX a b c) _ _ l2;obtain ⟨ts,k1,k2⟩:=l3.all;refine ⟨ts,k2,fun hs e g f hg hf=>?_⟩;rw [nil_append] at k1;obtain ⟨A,C,rfl,k3,k4⟩:=db k1;obtain ⟨A,B,rfl,k5,k6⟩:=db k3;have Da:On ⟨(A++B)++C,0,e,0,0⟩ (A++(B++C)):=⟨rfl,Nat.zero_le _,by simp,k2.kinds⟩;obtain ⟨q1,j1,j2⟩:=Ru (f:=f) G _ .empty A Da k5 h1;obtain ⟨q2,j3,j4⟩:=Rr (f:=f) As q1 _ B j1.1 k6 h2;have qw:q2.l=(A++B)++C:=(j1.tr j3).2.1;obtain ⟨j5,j6⟩:=Rs (f:=f) xs q2 { ({ PS.empty with globals:=PS.empty.globals++G }:PS) with arrays:=PS.empty.arrays++As } C j3.1 (by rw [qw];exact hs) (by unfold fW;rw [qw];exact hf) k4 h3
 have c1:G.length<=A.length:=by
  have:=congrArg List.length k5;rw [length_map] at this;rw [this];clear this k5 j1 j2 j3 j4 j5 j6 qw Da hs k1 k2 k3 l1 l2 l3 hf hg h1
  induction G with
  | nil=>exact Nat.le_refl _
  | cons s G ih=>rw [flatMap_cons,length_append,length_cons];simp only [Mx,length_cons,length_nil];omega
 have c2:As.length<=B.length:=by
  have:=congrArg List.length k6;rw [length_map] at this;rw [this];clear this k6 j1 j2 j3 j4 j5 j6 qw Da hs k1 k2 k3 l1 l2 l3 hf hg h2
  induction As with
  | nil=>exact Nat.le_refl _
  | cons s G ih=>rw [flatMap_cons,length_append,length_cons];simp only [HF,length_cons,length_nil];omega
 have c3:xs.length<=C.length:=by
  have:=congrArg List.length k4;rw [length_map] at this;rw [this];clear this k4 j1 j2 j3 j4 j5 j6 qw Da hs k1 k2 k3 l1 l2 l3 hf hg h3
  induction xs with
  | nil=>exact Nat.le_refl _
  | cons s G ih=>rw [flatMap_cons,length_append,length_cons];simp only [H8,length_cons];omega
 rw [length_append,length_append] at hg;have mU:∃ g',xs.length < g'/\g=g'+As.length+G.length:=⟨g - As.length - G.length,by omega,by omega⟩;obtain ⟨g',lr,rfl⟩:=mU;rw [j2,j4];refine ⟨fun h=>?_,fun h=>?_⟩
 ·obtain ⟨q,l,j7,j8,j9⟩:=j5 h;exact ⟨q,l,j7 g' lr,j8,j9⟩
 ·obtain ⟨q,dQ,j7,j8⟩:=j6 h;exact ⟨q,dQ,j7 g' lr,j8⟩
structure BG (st:PS):Prop where
 globals:cw st.globals=true
 arrays:st.arrays.all oo=true
 fns:∀ x∈st.fns,bp x.1=true/\cw x.2=true
 trees:∀ t∈st.trees,BF t
 len:st.fns.length=st.trees.length
theorem zu {a b:List ah} (h:cw a=true) (k:cw b=true):cw (a++b)=true:=by
 unfold cw at *;rw [List.all_append,h,k];rfl
theorem zw {s:ah} (h:bp s=true):cw [s]=true:=by
 unfold cw;rw [all_cons,h];rfl
theorem Sf.len {a b:List Tok} {n:Nat} (h:Sf a b n):b.length+n<=a.length:=by
 obtain ⟨p,rfl,h⟩:=h;rw [length_append];omega
theorem Iw:∀ (f:Nat) (acc:List ah) (p:RS) (ts:List Tok),On p ts->rv ts->ts.length+1 < f->cw acc=true ->
  ∃ l q,oJ f acc p=some (l,q)/\((∃ r n,bE p q (.ok r)/\cw l=true/\Sf ts r n)\/q.code≠0)
 | 0,acc,p,ts,_,_,hf,_=>by omega
 | f+1,acc,p,ts,hp,ho,hf,hn=>by
  rw [oJ]
  by_cases hc:p.code=0/\is p 0 [41]=false
  ·rw [if_pos hc]
   have la:(∃ r,bE p (if acc.length=0 then p else want p [44]) (.ok r)/\Sf ts r 0)\/(if acc.length=0 then p else want p [44]).code≠0:=by
    by_cases ha:acc.length=0
    ·rw [if_pos ha];exact .inl ⟨ts,On.self hp,.nil _⟩
    ·rw [if_neg ha]
     rcases lM hp (s:=[44]) au with ⟨r,h1,h2⟩ | ⟨x,h1,h2⟩
     ·exact .inl ⟨r,h2,(Sf.aL au h1).le (Nat.zero_le _)⟩
     ·exact .inr (bE.err h2)
   generalize (if acc.length=0 then p else want p [44])=p' at *
   rcases la with ⟨r,h1,h2⟩ | h1
   ·rcases tz h1.1 with ⟨r2,h3,h4⟩ | ⟨x,h3,h4⟩
    ·obtain ⟨k1,k2⟩:=Sf.name h3 (h2.ok ho);have hlen:=(h2.trans k1).len;obtain ⟨l,q,k3,k4⟩:=Iw f (acc++[(tok p' 0).s]) (bm p') r2 h4.1 ((h2.trans k1).ok ho) ao (zu hn (zw k2));refine ⟨l,q,k3,?_⟩
     rcases k4 with ⟨r3,n,k5,k6,k7⟩ | k5
     ·exact .inl ⟨r3,_,(h1.tr h4).tr k5,k6,(h2.trans k1).trans k7⟩
     ·exact .inr k5
    ·exact ⟨_,_,yE (bE.err h4) ao,.inr (bE.err h4)⟩
   ·rw [NF h1];exact ⟨_,_,yE h1 ao,.inr h1⟩
  ·rw [if_neg hc]
   rcases lM hp (s:=[41]) au with ⟨r,h1,h2⟩ | ⟨x,h1,h2⟩
   ·exact ⟨acc,_,rfl,.inl ⟨r,1,h2,hn,Sf.aL au h1⟩⟩
   ·exact ⟨acc,_,rfl,.inr (bE.err h2)⟩
theorem Vd {f:Nat} {p:RS} {st:PS} {u:Tok} {r0:List Tok} (hp:On p (u::r0)) (ho:rv (u::r0)) (hs:sL p.l) (hf:fW p<=f) (cn:BG st) :
  ∃ q dQ,iW f p st=some (q,dQ)/\((∃ r n,bE p q (.ok r)/\BG dQ/\Sf (u::r0) r (n+1)/\az dQ.trees<=n+1+az st.trees)\/q.code≠0):=by
 have p1:=nx hp;have gy:=Sf.one u r0;unfold iW
 by_cases h1:is p 0 lj=true
 ·rw [if_pos h1]
  rcases tz p1 with ⟨r1,a1,a2⟩ | ⟨x,a1,a2⟩
  ·obtain ⟨b1,b2⟩:=Sf.name a1 (gy.ok ho);have b3:=gy.trans b1;have a3:bE p (bm p.next) (.ok r1):=(On.next hp).tr a2
   by_cases h2:(bm p.next).code=0/\is (bm p.next) 0 [91]=true
   ·rw [if_pos h2]
    have h3:sign r1 0=[91]:=by
     have:=On.is a2.1 0 (s:=[91]) au;rw [h2.2] at this;simpa using this.symm
    obtain ⟨v,h4,_⟩:=tF au h3;have b4:=b3.trans (Sf.sign au h3);have p2:=a2.1;rw [h4] at p2
    have a4:bE p (bm p.next).next (.ok r1.tail):=a3.tr (On.next p2)
    have p3:=nx p2
    by_cases h5:(tok (bm p.next).next 0).kind=1
    ·rw [if_pos h5]
     cases hr:r1.tail with
     | nil =>
      rw [hr] at p3;have:=On.tok p3 0;rw [this] at h5;cases h5
     | cons w r3 =>
      rw [hr] at p3 a4 b4;have p4:=nx p3;have b5:=b4.trans (Sf.one w r3);have a5:=a4.tr (On.next p3);rw [qf p3] at h5;have hw:=(b4.ok ho w mem_cons_self).num h5
      rcases lM p4 (s:=[93]) au with ⟨r4,c1,c2⟩ | ⟨x,c1,c2⟩
      ·rcases lM c2.1 (s:=[59]) au with ⟨r5,d1,d2⟩ | ⟨x,d1,d2⟩
       ·refine ⟨_,_,rfl,.inl ⟨r5,0,(a5.tr c2).tr d2,⟨cn.globals,?_,cn.fns,cn.trees,cn.len⟩,((b5.trans (Sf.aL au c1)).trans (Sf.aL au d1)).le ao,by simp only;omega⟩⟩;simp only;rw [List.all_append,cn.arrays,all_cons,List.all_nil,Bool.and_true,Bool.true_and];unfold oo;rw [qf p3,b2];simp only [Bool.and_eq_true,Bool.not_eq_true',decide_eq_false_iff_not];exact ⟨⟨trivial,by omega⟩,by omega⟩
       ·exact ⟨_,_,rfl,.inr (bE.err d2)⟩
      ·refine ⟨_,_,rfl,.inr ?_⟩;rw [fD (bE.err c2)];exact bE.err c2
    ·rw [if_neg h5];exact ⟨_,_,rfl,.inr (bE.err (On.jW p3))⟩
   ·rw [if_neg h2]
    rcases lM a2.1 (s:=[59]) au with ⟨r4,c1,c2⟩ | ⟨x,c1,c2⟩
    ·exact ⟨_,_,rfl,.inl ⟨r4,0,a3.tr c2,⟨zu cn.globals (zw b2),cn.arrays,cn.fns,cn.trees,cn.len⟩,(b3.trans (Sf.aL au c1)).le ao,by simp only;omega⟩⟩
    ·exact ⟨_,_,rfl,.inr (bE.err c2)⟩
  ·rw [if_neg (fun h=>bE.err a2 h.1),fD (bE.err a2)];exact ⟨_,_,rfl,.inr (bE.err a2)⟩
 ·rw [if_neg h1]
  by_cases h2:is p 0 mD=true
  ·rw [if_pos h2]
   rcases tz p1 with ⟨r1,a1,a2⟩ | ⟨x,a1,a2⟩
   ·obtain ⟨b1,b2⟩:=Sf.name a1 (gy.ok ho);have b3:=gy.trans b1;have a3:bE p (bm p.next) (.ok r1):=(On.next hp).tr a2
    rcases lM a2.1 (s:=[40]) au with ⟨r2,c1,c2⟩ | ⟨x,c1,c2⟩
    ·have b4:=b3.trans (Sf.aL au c1);have a4:=a3.tr c2;have hl:=On.len c2.1;have jA:(want (bm p.next) [40]).l=p.l:=a4.2.1;obtain ⟨l,q,k1,k2⟩:=Iw f [] _ r2 c2.1 (b4.ok ho) (by rw [jA] at hl;unfold fW at hf;omega) rfl;rw [k1];simp only
     rcases k2 with ⟨r3,n,k3,k4,k5⟩ | k3
     ·have a5:=a4.tr k3;have qw:q.l=p.l:=a5.2.1;rw [if_pos k3.1.code];obtain ⟨t,q',k6,k7⟩:=Vb (f:=f) k3.1 (by rw [qw];exact hs) (by unfold fW at hf |-;rw [qw];exact hf);rw [k6];simp only;have b5:=b4.trans k5
      cases hb:block q.e 1 r3 with
      | error x=>rw [hb] at k7;exact ⟨_,_,rfl,.inr (bE.err k7)⟩
      | ok y =>
       obtain ⟨t',r4⟩:=y;rw [hb] at k7;obtain ⟨rfl,k7⟩:=k7;obtain ⟨k8,k9⟩:=JA (b5.ok ho) hb;refine ⟨_,_,rfl,.inl ⟨r4,n+aP t+2,a5.tr k7,⟨cn.globals,cn.arrays,?_,?_,?_⟩,(b5.trans k9).le ao,?_⟩⟩
       ·intro x hx
        rcases List.mem_append.1 hx with hx | hx
        ·exact cn.fns x hx
        ·rw [mem_singleton] at hx;subst hx;exact ⟨b2,k4⟩
       ·intro x hx
        rcases List.mem_append.1 hx with hx | hx
        ·exact cn.trees x hx
        ·rw [mem_singleton] at hx;subst hx;exact k8
       ·simp only [length_append,length_cons,length_nil];have:=cn.len;omega
       ·simp only [mP,az];omega
     ·rw [if_neg k3];exact ⟨_,_,rfl,.inr k3⟩
    ·rw [yE (bE.err c2) (by unfold fW at hf;omega)];simp only;rw [if_neg (bE.err c2)];exact ⟨_,_,rfl,.inr (bE.err c2)⟩
   ·rw [fD (bE.err a2),yE (bE.err a2) (by unfold fW at hf;omega)];simp only;rw [if_neg (bE.err a2)];exact ⟨_,_,rfl,.inr (bE.err a2)⟩
  ·rw [if_neg h2];exact ⟨_,_,rfl,.inr (bE.err (On.jW hp))⟩
theorem Ix {f:Nat}:∀ (G:Nat) (p:RS) (st:PS) (ts:List Tok),On p ts->rv ts->sL p.l->fW p<=f->BG st->ts.length < G ->
  ∃ q dQ,ni G f p st=some (q,dQ)/\(q.code=0->BG dQ/\az dQ.trees<=ts.length+az st.trees)
 | 0,p,st,ts,_,_,_,_,_,hG=>by omega
 | G+1,p,st,ts,hp,ho,hs,hf,cn,hG=>by
  cases ts with
  | nil =>
   rw [ni,if_neg (fun hc=>Vq hp hc.2)];exact ⟨p,st,rfl,fun _=>⟨cn,by simp⟩⟩
  | cons u r0 =>
   obtain ⟨q,dQ,h1,h2⟩:=Vd hp ho hs hf cn;rw [qK hp h1];rw [length_cons] at hG
   rcases h2 with ⟨r,n,h3,h4,h5,h6⟩ | h3
   ·have hl:=h5.len;rw [length_cons] at hl;have qw:q.l=p.l:=h3.2.1;obtain ⟨q',st2,k1,k2⟩:=Ix G q dQ r h3.1 (h5.ok ho) (by rw [qw];exact hs) (by unfold fW at hf |-;rw [qw];exact hf) h4 ao;exact ⟨q',st2,k1,fun hc=>by obtain ⟨k3,k4⟩:=k2 hc;exact ⟨k3,by rw [length_cons];omega⟩⟩
   ·exact ⟨q,dQ,Iy h3 ao,fun hc=>absurd hc h3⟩
def oR (st:PS):List Fn:=st.fns.mapIdx fun i x=>⟨x.1,x.2,((az (st.trees.take i):Nat):Int)⟩
def same (p:Src) (st:PS):Bool:=ff (fun x y=>x==y) p.globals st.globals&&(ff y9 p.arrays st.arrays&&(ff rl p.fns (oR st)&&ff kE p.nodes (ea 0 st.trees)))
structure Reads (x:ah) (ts:List Tok) (c z:Int) (q:RS) (st:PS):Prop where
 lex:mW x (x.length+1) 0 []=some (ts,c,z)
 len:ts.length<=x.length
 read:ni (ts.length+1) (40 * ts.length+100) ⟨ts,0,(x.length:Int),0,0⟩ .empty=some (q,st)
 ok:q.code=0->BG st/\az st.trees<=ts.length
theorem reads (x:ah):∃ ts c z q st,Reads x ts c z q st:=by
 obtain ⟨ts,c,z,h1,h2,h3,h4⟩:=rK x (x.length+1) 0 [] (Nat.zero_le _) ao (fun t h=>by simp at h) .nil (fun t h=>by simp at h) (Nat.le_refl _);have Da:On ⟨ts,0,(x.length:Int),0,0⟩ ts:=⟨rfl,Nat.zero_le _,rfl,fun t ht=>(h2 t ht).kinds⟩;obtain ⟨q,st,h5,h6⟩:=Ix (f:=40 * ts.length+100) (ts.length+1) _ .empty ts Da h2 h3 (Nat.le_refl _) ⟨rfl,rfl,fun x h=>(by cases h),fun x h=>(by cases h),rfl⟩ ao;exact ⟨ts,c,z,q,st,h1,h4,h5,fun h=>by obtain ⟨a,b⟩:=h6 h;exact ⟨a,by simpa [PS.empty,az] using b⟩⟩
structure Forms (l:List T) (ls:List (List S)):Prop where
 len:ls.length=l.length
 at_:∀ (i:Nat) t b,l[i]?=some t->ls[i]?=some b->S.cM b=true/\er t=bF b
theorem EO:∀ (l:List T),(∀ t∈l,BF t)->∃ ls,Forms l ls
 | [],_=>⟨[],rfl,fun i t b h=>by simp at h⟩
 | t::l,h=>by
  obtain ⟨b,h1,h2⟩:=h t mem_cons_self
  obtain ⟨ls,h3⟩:=EO l fun u hu=>h u (mem_cons_of_mem _ hu)
  refine ⟨b::ls,by simp [h3.len],fun i t' b' k1 k2=>?_⟩
  cases i with
  | zero=>cases k1;cases k2;exact ⟨h1,h2⟩
  | succ i=>exact h3.at_ i t' b' (by simpa using k1) (by simpa using k2)
theorem fw.mem {Q:Fn->T->Prop}:∀ {fns:List Fn} {a:Nat} {l:List T},fw Q fns a l->(∀ f∈fns,∃ t∈l,Q f t)/\(∀ t∈l,∃ f∈fns,Q f t)
 | [],_,[],_=>⟨fun f h=>(by cases h),fun f h=>(by cases h)⟩
 | f::r,a,t::l,h=>by
  rw [fw] at h;obtain ⟨k1,k2⟩:=fw.mem h.2.2;refine ⟨fun g hg=>?_,fun u hu=>?_⟩
  ·rcases List.mem_cons.1 hg with rfl | hg
   ·exact ⟨t,mem_cons_self,h.2.1⟩
   ·obtain ⟨u,a,b⟩:=k1 g hg;exact ⟨u,mem_cons_of_mem _ a,b⟩
  ·rcases List.mem_cons.1 hu with rfl | hu
   ·exact ⟨f,mem_cons_self,h.2.1⟩
   ·obtain ⟨g,a,b⟩:=k2 u hu;exact ⟨g,mem_cons_of_mem _ a,b⟩
 | [],_,t::l,h=>by cases h
 | f::r,_,[],h=>by cases h
theorem fJ.JN {p:Src} {l:List T} (h:fJ p l):∃ ls,Forms l ls:=by
 refine EO l fun t ht=>?_
 obtain ⟨f,_,h1⟩:=(fw.mem h.fns).2 t ht;exact toB h1.all h1.kind
theorem fJ.at_ {p:Src} {l:List T} (h:fJ p l):lX l:=by
 have:∀ l:List T,(∀ t∈l,c7 t=true)->lX l:=by
  intro l
  induction l with
  | nil=>intro _;trivial
  | cons t l ih=>intro h;rw [lX];exact ⟨LA t (h t mem_cons_self),ih fun u hu=>h u (mem_cons_of_mem _ hu)⟩
 refine this l fun t ht=>?_
 obtain ⟨f,_,h1⟩:=(fw.mem h.fns).2 t ht;exact h1.all
theorem fJ.Ew {p:Src} {l:List T} (h:fJ p l):ji p.nodes p.fns 0 []=some (l,p.nodes.length):=by
 rw [HN p.fns 0 [] l h.st h.fns h.at_,h.len];simp
theorem fJ.k {p:Src} {l:List T} (h:fJ p l):l.all fP=true:=by
 rw [all_eq_true];intro t ht;obtain ⟨f,_,h1⟩:=(fw.mem h.fns).2 t ht;exact QM t h1.all
theorem Mo {l:List T} {ls:List (List S)} (h:Forms l ls):aM l=ls.map bF:=by
 rw [sB];apply List.ext_getElem?;intro i;rw [getElem?_map,getElem?_map];have hl:=h.len
 cases h1:l[i]? with
 | none =>
  rw [List.getElem?_eq_none_iff] at h1;rw [List.getElem?_eq_none_iff.2 ao];rfl
 | some t =>
  have hi:=(List.getElem?_eq_some_iff.1 h1).1
  have h2:ls[i]?=some (ls[i]'ao):=by simp [hl,hi]
  rw [h2];exact congrArg some (h.at_ i t _ h1 h2).2
theorem zip_fst {α β:Type}:∀ (a:List α) (b:List β),a.length=b.length->(a.zip b).map Prod.fst=a
 | [],[],_=>rfl
 | x::a,y::b,h=>by rw [zip_cons_cons,List.map_cons,zip_fst a b (by simpa using h)]
 | [],y::b,h=>by simp at h
 | x::a,[],h=>by simp at h
theorem CG {α β:Type}:∀ (a:List α) (b:List β),a.length=b.length->(a.zip b).map Prod.snd=b
 | [],[],_=>rfl
 | x::a,y::b,h=>by rw [zip_cons_cons,List.map_cons,CG a b (by simpa using h)]
 | [],y::b,h=>by simp at h
 | x::a,[],h=>by simp at h
theorem yb (l:List T) (i:Nat):az (l.take i)=az ((aM l).take i):=by
 rw [sB,<-List.map_take,<-sB,vH]
theorem VK {p:Src} {l:List T} {l':List T} {ls:List (List S)} (h:fJ p l) (he:aM l'=aM l):same p ⟨l',p.globals,p.arrays,p.fns.map fun x=>(x.name,x.params)⟩=true:=by
 unfold same;simp only [Bool.and_eq_true];refine ⟨qE (fun x=>by simp) _,qE (fun x=>by simp [y9]) _,?_,?_⟩
 ·have:oR ⟨l',p.globals,p.arrays,p.fns.map fun x=>(x.name,x.params)⟩=p.fns:=by
   unfold oR;apply List.ext_getElem?;intro i;simp only [List.getElem?_mapIdx,getElem?_map]
   cases hf:p.fns[i]? with
   | none=>rfl
   | some f =>
    have hlen:=fw.len h.fns;have hi:=(List.getElem?_eq_some_iff.1 hf).1
    have ht:l[i]?=some (l[i]'ao):=by simp [<-hlen,hi]
    have hb:=(fw.at_ h.fns i f _ hf ht).1;rw [Nat.zero_add,yb,<-he,<-yb] at hb;simp only [Option.map_some];rw [<-hb]
  rw [this];refine qE (fun x=>?_) _;simp [rl,qE]
 ·rw [dw.all h.st h.len];exact BZ _ _ 0 he.symm
theorem Vh {p:Src} {l:List T} {ls:List (List S)} (h:fJ p l) (hf:Forms l ls):mV cP ft p l=di f2 (di a1 (di g1 [] p.globals) p.arrays) (p.fns.zip ls):=by
 unfold mV
 refine LO _ _ _ _ hf.len fun i t b h1 h2=>?_
 obtain ⟨h3,h4⟩:=hf.at_ i t b h1 h2;rw [<-LI,h4];exact uV b h3 0
theorem KT {p:Src} {l:List T} {ls:List (List S)} (h:fJ p l) (hf:Forms l ls) {ts:List Tok} {c z:Int} {q:RS} {st:PS} (hr:Reads (mV cP ft p l) ts c z q st) :
  c=0/\((ls.all fun b=>eu b 1)=true->q.code=0/\az st.trees<=800/\same p st=true)/\((ls.all fun b=>eu b 1)=false->q.code≠0):=by
 have hx:=Vh h hf;have hlen:=fw.len h.fns;have pQ:=hf.len
 have px:∀ x∈p.fns.zip ls,V8 x:=by
  intro x hx;obtain ⟨f,b⟩:=x;obtain ⟨i,hi⟩:=List.getElem?_of_mem hx;rw [List.getElem?_zip_eq_some] at hi;have r9:=(List.getElem?_eq_some_iff.1 hi.2).1
  have ht:l[i]?=some (l[i]'ao):=by simp [<-pQ,r9]
  have h1:=(fw.at_ h.fns i f _ hi.1 ht).2;exact ⟨h1.name,h1.params,(hf.at_ i _ b ht hi.2).1⟩
 obtain ⟨us,h1,h2⟩:=NO p.globals p.arrays (p.fns.zip ls) h.globals h.arrays px;rw [<-hx] at h1;have h3:=SM h1 rfl ((mV cP ft p l).length+1) [] ao;rw [nil_append,hr.lex] at h3;simp only [Option.some.injEq,Prod.mk.injEq] at h3;obtain ⟨rfl,rfl,rfl⟩:=h3
 have Zt:sL ts:=by
  obtain ⟨iH,c',z',k1,k2,k3,k4⟩:=rK (mV cP ft p l) ((mV cP ft p l).length+1) 0 [] (Nat.zero_le _) ao (fun t h=>by simp at h) .nil (fun t h=>by simp at h) (Nat.le_refl _);rw [hr.lex] at k1;cases k1;exact k3
 obtain ⟨h4,h5⟩:=h2 Zt ((mV cP ft p l).length:Int) (ts.length+1) (40 * ts.length+100) (Nat.le_refl _) (Nat.le_refl _)
 have aQ:((p.fns.zip ls).all fun x=>eu x.2 1)=ls.all fun b=>eu b 1:=by
  have:ls=(p.fns.zip ls).map Prod.snd:=(CG _ _ ao).symm
  conv=>rhs;rw [this]
  rw [List.all_map];rfl
 rw [aQ] at h4 h5;refine ⟨rfl,fun uF=>?_,fun uF=>?_⟩
 ·obtain ⟨q',l',k1,k2,k3⟩:=h4 uF;rw [hr.read] at k1;simp only [Option.some.injEq,Prod.mk.injEq] at k1;obtain ⟨rfl,rfl⟩:=k1
  have e1:((p.fns.zip ls).map fun x=>bF x.2)=ls.map bF:=by
   have:ls=(p.fns.zip ls).map Prod.snd:=(CG _ _ ao).symm
   conv=>rhs;rw [this]
   rw [map_map];rfl
  have e2:((p.fns.zip ls).map fun x=>(x.1.name,x.1.params))=p.fns.map fun x=>(x.name,x.params):=by
   have:p.fns=(p.fns.zip ls).map Prod.fst:=(zip_fst _ _ ao).symm
   conv=>rhs;rw [this]
   rw [map_map];rfl
  have he:aM l'=aM l:=by rw [k3,e1,Mo hf]
  refine ⟨k2,?_,?_⟩
  ·simp only;rw [<-vH,he,vH,h.len];exact h.few
  ·rw [e2];exact VK (ls:=ls) h he
 ·obtain ⟨q',dQ,k1,k2⟩:=h5 uF;rw [hr.read] at k1;simp only [Option.some.injEq,Prod.mk.injEq] at k1;obtain ⟨rfl,rfl⟩:=k1;exact k2
theorem H2 {α:Type} {p:α->α->Bool} {a b:List α} (h:ff p a b=true) {x:α} (hx:x∈a):∃ y∈b,p x y=true:=by
 obtain ⟨i,hi⟩:=List.getElem?_of_mem hx;have hl:=yr h;have ak:=(List.getElem?_eq_some_iff.1 hi).1
 have hb:b[i]?=some (b[i]'ao):=by simp [<-hl,ak]
 exact ⟨_,mem_of_getElem? hb,EE hi hb h⟩
theorem KH {p:Src} {l:List T} (hn:p.nodes.length<=800) (hb:ji p.nodes p.fns 0 []=some (l,p.nodes.length)) {st:PS} (eF:BG st) (hs:same p st=true):fJ p l:=by
 obtain ⟨l',h1,h2,h3,h4,h5⟩:=BO _ _ _ _ _ hb;rw [nil_append] at h1;subst h1;unfold same at hs;simp only [Bool.and_eq_true] at hs;obtain ⟨s1,s2,s3,s4⟩:=hs
 have hz:az l=p.nodes.length:=by omega
 have UM:=dw.all h2 hz;rw [UM] at s4
 have hlen:l.length=st.trees.length:=by
  have a1:=fw.len h3;have a2:=yr s3;unfold oR at a2;rw [List.length_mapIdx] at a2;have:=eF.len;omega
 have he:=Tc hlen s4
 have iK:∀ f∈p.fns,bp f.name=true/\cw f.params=true:=by
  intro f hf;obtain ⟨g,hg,hp⟩:=H2 s3 hf;unfold oR at hg;obtain ⟨i,hi⟩:=List.getElem?_of_mem hg;rw [List.getElem?_mapIdx] at hi
  cases hx:st.fns[i]? with
  | none=>rw [hx] at hi;cases hi
  | some x =>
   rw [hx] at hi;cases hi;simp only [rl,Bool.and_eq_true,beq_iff_eq] at hp;obtain ⟨⟨k1,k2⟩,_⟩:=hp;obtain ⟨k3,k4⟩:=eF.fns x (mem_of_getElem? hx);rw [k1,yo k2];exact ⟨k3,k4⟩
 have X1:∀ t∈l,t.n.kind=14/\c7 t=true:=by
  intro t ht
  have h6:er t∈aM l:=by rw [sB];exact List.mem_map_of_mem ht
  rw [he,sB] at h6;obtain ⟨u,hu,h7⟩:=List.mem_map.1 h6;obtain ⟨b,k1,k2⟩:=eF.trees u hu;rw [h7] at k2
  have wY:xi t:=by
   have:∀ l:List T,lX l->t∈l->xi t:=by
    intro l
    induction l with
    | nil=>intro _ h;cases h
    | cons v l ih =>
     intro h hm;rw [lX] at h
     rcases List.mem_cons.1 hm with rfl | hm
     ·exact h.1
     ·exact ih h.2 hm
   exact this l h5 ht
  refine ⟨?_,LB t (by rw [k2];exact S.uW b k1) wY⟩;have:=congrArg (fun x=>x.n.kind) k2;simp only [xq] at this;exact this
 refine ⟨?_,?_,h2,fw.mono h3 fun f t hf ht _=>⟨(iK f hf).1,(iK f hf).2,(X1 t ht).1,(X1 t ht).2⟩,hz,hn⟩
 ·rw [yo s1];exact eF.globals
 ·rw [all_eq_true];intro a ha;obtain ⟨b,hb,hp⟩:=H2 s2 ha;have h6:=List.all_eq_true.1 eF.arrays b hb;simp only [y9,Bool.and_eq_true,beq_iff_eq] at hp;unfold oo at h6 |-;rw [hp.1,hp.2];exact h6
def be {α:Type} (f:α->Nat):List α->Nat
 | []=>0
 | x::l=>f x+be f l
theorem Au {α:Type} (f:α->Nat) (a b:List α):be f (a++b)=be f a+be f b:=by
 induction a with
 | nil=>simp [be]
 | cons x a ih=>simp only [cons_append,be,ih];omega
theorem Ti {α:Type} {f g:α->Nat} {l:List α} (h:∀ x∈l,f x<=g x):be f l<=be g l:=by
 induction l with
 | nil=>exact Nat.le_refl _
 | cons x l ih =>
  have h1:=h x mem_cons_self
  have h2:=ih fun y hy=>h y (mem_cons_of_mem _ hy)
  simp only [be];omega
theorem nJ {α:Type} {f:α->Nat} {l:List α} {x:α} (h:x∈l):f x<=be f l:=by
 induction l with
 | nil=>cases h
 | cons y l ih =>
  rw [be]
  rcases List.mem_cons.1 h with rfl | h
  ·omega
  ·have:=ih h;omega
theorem nI {α:Type} {f g:α->Nat} {k:Nat} {l:List α} (h:∀ x∈l,f x<=k * g x):be f l<=k * be g l:=by
 induction l with
 | nil=>exact Nat.zero_le _
 | cons x l ih =>
  have h1:=h x mem_cons_self
  have h2:=ih fun y hy=>h y (mem_cons_of_mem _ hy)
  simp only [be,Nat.mul_add];omega
theorem tH {α:Type} (f:α->Nat) (l:List α) (h:∀ x∈l,1<=f x):l.length<=be f l:=by
 induction l with
 | nil=>exact Nat.zero_le _
 | cons x l ih =>
  have h1:=h x mem_cons_self
  have h2:=ih fun y hy=>h y (mem_cons_of_mem _ hy)
  rw [be,length_cons];omega
theorem Gq {α β:Type} (f:α->Nat) (g:β->Nat):∀ (a:List α) (b:List β),be (fun x:α × β=>f x.1+g x.2) (a.zip b)<=be f a+be g b
 | [],b=>by simp [be]
 | x::a,[]=>by simp [be]
 | x::a,y::b=>by
  have:=Gq f g a b;simp only [zip_cons_cons,be] at *;omega
theorem vT {α:Type} (f:α->ah):∀ (l:List α) (acc:ah),(di f acc l).length=acc.length+be (fun x=>(f x).length) l
 | [],acc=>by simp [di,be]
 | x::l,acc=>by rw [di,vT f l,length_append,be];omega
def sw (n:Nd):Nat:=n.s.length+60
mutual
theorem V7:∀ (t:T) (a:Nat),jE t=be sw (lO a t)
 | .mk n l,a=>by rw [jE,lO,be,yU l (a+1),sw]
theorem yU:∀ (l:List T) (a:Nat),fM l=be sw (ea a l)
 | [],a=>rfl
 | t::r,a=>by rw [fM,ea,Au,V7 t a,yU r (a+aP t)]
end
def wi (l:List T) (i:Nat):Nat:=match l[i]? with | some t=>jE t | none=>0
theorem ZR (l:List T):wi l 0+wi l 1+wi l 2<=fM l:=by
 match l with
 | []=>simp [wi]
 | [a]=>simp only [wi,fM];simp
 | [a,b]=>simp only [wi,fM];simp
 | a::b::c::r=>simp only [wi,fM];simp;omega
theorem Ig {l:List T} {f:T->ah} (h:∀ t∈l,(f t).length<=jE t) (i:Nat):((l.map f).getD i []).length<=wi l i:=by
 rw [List.getD_eq_getElem?_getD,getElem?_map];unfold wi
 cases hi:l[i]? with
 | none=>simp
 | some t=>exact h t (mem_of_getElem? hi)
theorem Jc {l:List T} {t:T} (h:t∈l):aP t<=az l:=by
 induction l with
 | nil=>cases h
 | cons a l ih =>
  rw [az]
  rcases List.mem_cons.1 h with rfl | h
  ·omega
  ·have:=ih h;omega
theorem Ja {f:T->ah}:∀ {l:List T},(∀ t∈l,(f t).length+4<=jE t)->kh (l.map f)<=fM l
 | [],_=>Nat.zero_le _
 | t::l,h=>by
  have h1:=h t mem_cons_self
  have h2:=Ja (l:=l) fun y hy=>h y (mem_cons_of_mem _ hy)
  rw [List.map_cons,kh,fM];omega
theorem VR:∀ (N:Nat) (t:T),aP t<=N->o0 t->∀ d,(jU cP ft d t).length+4<=jE t/\(na cP ft d t).length<=jE t:=by
 intro N
 induction N with
 | zero=>intro t h;have:=km t;omega
 | succ N ih =>
  intro t hN hn d;have cS:=ef t;rw [qS] at hn
  have hk:∀ a∈t.kids,∀ d,(jU cP ft d a).length+4<=jE a/\(na cP ft d a).length<=jE a:=fun a ha d=>ih a (by have:=Jc ha;omega) (jD hn.2 ha) d
  have hx:=Ig (l:=t.kids) (f:=cP) (fun a ha=>by have:=vJ (aP a) a (Nat.le_refl _) (jD hn.2 ha);omega);have hb:=Ig (l:=t.kids) (f:=na cP ft d) (fun a ha=>(hk a ha d).2);have h3:=ZR t.kids;have hw:=oQ t;have fb:=vJ (aP t) t (Nat.le_refl _) ((qS t).2 hn);have x0:=hx 0;have x1:=hx 1;have b1:=hb 1;have b2:=hb 2;constructor
  ·rw [N1,HL];unfold xf;split
   ·simp only [length_append,length_cons,length_nil];omega
   split
   ·simp only [length_append,length_cons,length_nil];omega
   split
   ·simp only [length_append,length_cons,length_nil];omega
   split
   ·split
    ·simp only [length_append,length_cons,length_nil];omega
    ·simp only [length_append,length_cons,length_nil];omega
   split
   ·simp only [length_append,length_cons,length_nil];omega
   split
   ·simp only [length_append,length_cons,length_nil];omega
   split
   ·simp only [length_append,length_cons,length_nil];omega
   ·omega
  ·rw [LH,I8]
   have:=Ja (f:=jU cP ft (d+1)) (l:=t.kids) fun a ha=>(hk a ha (d+1)).1
   have e:∀ l:List ah,(ft l d).length=3+kh l:=fun l=>by
    unfold ft;rw [length_append,sR];simp only [length_cons,length_nil];omega
   rw [e];omega
def wS (l:List ah):Nat:=be (fun s=>s.length+1) l
def eh (p:Src):Nat:=wS p.globals+be (fun a:Ar=>a.name.length+1) p.arrays+be (fun f:Fn=>f.name.length+wS f.params+1) p.fns+be (fun n:Nd=>n.s.length+n.kids.length+1) p.nodes
structure xh (p:Src):Prop where
 arrays:∀ a∈p.arrays,-9223372036854775808<=a.size/\a.size<=9223372036854775807
 nodes:∀ n∈p.nodes,-9223372036854775808<=n.n/\n.n<=9223372036854775807
mutual
theorem et.num {nodes:List Nd} (h:∀ n∈nodes,-9223372036854775808<=n.n/\n.n<=9223372036854775807):∀ (t:T) (a:Nat),et nodes a t->o0 t
 | .mk n l,a,hs=>by
  rw [et] at hs;rw [o0];exact ⟨h n (mem_of_getElem? hs.1),dw.num h l _ hs.2.2⟩
theorem dw.num {nodes:List Nd} (h:∀ n∈nodes,-9223372036854775808<=n.n/\n.n<=9223372036854775807):∀ (l:List T) (a:Nat),dw nodes a l->p7 l
 | [],a,_=>trivial
 | t::r,a,hs=>by
  rw [dw] at hs;rw [p7];exact ⟨et.num h t a hs.1,dw.num h r _ hs.2⟩
end
theorem Qo (l:List ah):(l.map fun y=>y.length+2).sum=be (fun s=>s.length+2) l:=by
 induction l with
 | nil=>rfl
 | cons s l ih=>rw [List.map_cons,sum_cons,ih,be]
theorem GJ (l:List T):fM l=be jE l:=by
 induction l with
 | nil=>rfl
 | cons t l ih=>rw [fM,be,ih]
theorem SG {p:Src} {l:List T} (hn:xh p) (hs:dw p.nodes 0 l) (hz:az l=p.nodes.length):(mV cP ft p l).length<=100 * eh p:=by
 have il:=dw.num hn.nodes l 0 hs
 have e1:be (fun s=>(g1 s).length) p.globals<=100 * wS p.globals:=nI fun s _=>by simp only [g1,length_append,length_cons,length_nil];omega
 have e2:be (fun a=>(a1 a).length) p.arrays<=100 * be (fun a:Ar=>a.name.length+1) p.arrays:=nI fun a ha=>by
  have:=xT (hn.arrays a ha);simp only [a1,length_append,length_cons,length_nil];omega
 have e3:be (fun x=>(f1 cP ft x).length) (p.fns.zip l)<=be (fun x:Fn × T=>(fun f:Fn=>100 * (f.name.length+wS f.params+1)) x.1+jE x.2) (p.fns.zip l):=Ti fun x hx=>by
  have h1:=(VR (aP x.2) x.2 (Nat.le_refl _) (jD il (List.of_mem_zip hx).2) 0).2;have h2:=Ab x.1.params;rw [Qo] at h2
  have h3:be (fun s=>s.length+2) x.1.params<=2 * wS x.1.params:=nI fun s _=>by omega
  simp only [f1,length_append,length_cons,length_nil];omega
 have e4:=Gq (fun f:Fn=>100 * (f.name.length+wS f.params+1)) jE p.fns l
 have e5:be (fun f:Fn=>100 * (f.name.length+wS f.params+1)) p.fns<=100 * be (fun f:Fn=>f.name.length+wS f.params+1) p.fns:=nI fun f _=>Nat.le_refl _
 have e6:be sw p.nodes<=100 * be (fun n:Nd=>n.s.length+n.kids.length+1) p.nodes:=nI fun n _=>by unfold sw;omega
 have e7:be jE l=be sw p.nodes:=by rw [<-GJ,yU l 0,<-dw.all hs hz]
 unfold mV eh;rw [vT,vT,vT];simp only [length_nil];have e8:=Nat.le_trans e3 e4;generalize be (fun x=>(f1 cP ft x).length) (p.fns.zip l)=v3 at *;generalize be (fun s=>(g1 s).length) p.globals=v1 at *;generalize be (fun a=>(a1 a).length) p.arrays=v2 at *;omega
theorem Gy {p:Src} {l:List T} (hs:dw p.nodes 0 l) (hz:az l=p.nodes.length):∀ t∈l,jE t<=100 * eh p/\aP t<=eh p:=fun t ht=>by
 have e6:be sw p.nodes<=100 * be (fun n:Nd=>n.s.length+n.kids.length+1) p.nodes:=nI fun n _=>by unfold sw;omega
 have e7:be jE l=be sw p.nodes:=by rw [<-GJ,yU l 0,<-dw.all hs hz]
 have e8:=nJ (f:=jE) ht;have e9:=Jc ht
 have XA:=tH (fun n:Nd=>n.s.length+n.kids.length+1) p.nodes fun n _=>by omega
 unfold eh;omega
theorem Gz (l:List ah):l.length<=wS l:=tH _ l fun s _=>by omega
theorem Oi {l:List ah} {s:ah} (h:s∈l):s.length+1<=wS l:=nJ (f:=fun s:ah=>s.length+1) h
structure Small (p:Src) (n:Nat):Prop where
 globals:p.globals.length<=n/\∀ s∈p.globals,s.length<=n
 arrays:p.arrays.length<=n/\∀ a∈p.arrays,a.name.length<=n
 fns:p.fns.length<=n/\∀ f∈p.fns,f.name.length<=n/\f.params.length<=n/\∀ s∈f.params,s.length<=n
 nodes:p.nodes.length<=n/\∀ x∈p.nodes,x.s.length<=n/\x.kids.length<=n
theorem gR (p:Src):Small p (eh p):=by
 have a1:=Gz p.globals
 have a2:=tH (fun a:Ar=>a.name.length+1) p.arrays fun a _=>by omega
 have a3:=tH (fun f:Fn=>f.name.length+wS f.params+1) p.fns fun a _=>by omega
 have a4:=tH (fun n:Nd=>n.s.length+n.kids.length+1) p.nodes fun a _=>by omega
 unfold eh;refine ⟨⟨by omega,fun s hs=>?_⟩,⟨by omega,fun a ha=>?_⟩,⟨by omega,fun f hf=>?_⟩,⟨by omega,fun n hn=>?_⟩⟩
 ·have:=Oi hs;omega
 ·have:=nJ (f:=fun a:Ar=>a.name.length+1) ha;omega
 ·have:=nJ (f:=fun f:Fn=>f.name.length+wS f.params+1) hf;refine ⟨by omega,by have:=Gz f.params;omega,fun s hs=>by have:=Oi hs;omega⟩
 ·have:=nJ (f:=fun n:Nd=>n.s.length+n.kids.length+1) hn;exact ⟨by omega,by omega⟩
structure zG (st:PS) (n:Nat):Prop where
 globals:st.globals.length<=n
 arrays:st.arrays.length<=n
 fns:st.fns.length<=n
 params:∀ x∈st.fns,x.2.length<=n
theorem M9:∀ (f:Nat) (acc:List ah) (p:RS) (l:List ah) (q:RS),oJ f acc p=some (l,q)->l.length<=acc.length+f
 | 0,_,_,_,_,h=>by cases h
 | f+1,acc,p,l,q,h=>by
  rw [oJ] at h;split at h
  ·have:=M9 f _ _ l q h;rw [length_append,length_cons,length_nil] at this;omega
  ·cases h;omega
theorem zG.up {st:PS} {n:Nat} (h:zG st n):zG st (n+1):=by
 obtain ⟨a,b,c,d⟩:=h;exact ⟨by omega,by omega,by omega,fun x hx=>by have:=d x hx;omega⟩
theorem WM {f n:Nat} {p q:RS} {st dQ:PS} (hf:f<=n) (h:iW f p st=some (q,dQ)) (hs:zG st n):zG dQ (n+1):=by
 have key:=hs.up;obtain ⟨a,b,c,d⟩:=hs;unfold iW at h;split at h
 ·split at h
  ·split at h
   ·cases h;exact ⟨by simp;omega,by simp;omega,by simp;omega,fun x hx=>by have:=d x hx;omega⟩
   ·cases h;exact key
  ·cases h;exact ⟨by simp;omega,by simp;omega,by simp;omega,fun x hx=>by have:=d x hx;omega⟩
 ·split at h
  ·cases hm:oJ f [] (want (bm p.next) [40]) with
   | none=>rw [hm] at h;cases h
   | some r =>
    obtain ⟨l,q1⟩:=r;rw [hm] at h;simp only at h;have hl:=M9 _ _ _ _ _ hm;split at h
    ·split at h
     ·cases h
     ·cases h;refine ⟨by simp;omega,by simp;omega,by simp;omega,fun x hx=>?_⟩
      rcases List.mem_append.1 hx with hx | hx
      ·have:=d x hx;omega
      ·rw [mem_singleton] at hx;subst hx;simp at hl |-;omega
    ·cases h;exact key
  ·cases h;exact key
theorem Nb {f:Nat}:∀ (G n:Nat) (p q:RS) (st dQ:PS),f<=n->ni G f p st=some (q,dQ)->zG st n->zG dQ (n+G)
 | 0,n,p,q,st,dQ,_,h,_=>by cases h
 | G+1,n,p,q,st,dQ,hf,h,hs=>by
  rw [ni] at h;split at h
  ·cases hw:iW f p st with
   | none=>rw [hw] at h;cases h
   | some r =>
    obtain ⟨q1,s1⟩:=r;rw [hw] at h;simp only at h;have:=Nb G (n+1) q1 q s1 dQ ao h (WM hf hw hs);rw [show n+(G+1)=n+1+G by omega];exact this
  ·cases h;obtain ⟨a,b,c,d⟩:=hs;exact ⟨by omega,by omega,by omega,fun x hx=>by have:=d x hx;omega⟩
mutual
theorem O6:∀ (t:T) (a:Nat),∀ n∈lO a t,n.kids.length<=aP t
 | .mk m l,a,n,h=>by
  rw [lO] at h;rw [aP]
  rcases List.mem_cons.1 h with rfl | h
  ·simp only [dV];have:=bL l;omega
  ·have:=zM l (a+1) n h;omega
theorem zM:∀ (l:List T) (a:Nat),∀ n∈ea a l,n.kids.length<=az l
 | [],a,n,h=>by rw [ea] at h;cases h
 | t::r,a,n,h=>by
  rw [ea] at h;rw [az]
  rcases List.mem_append.1 h with h | h
  ·have:=O6 t a n h;omega
  ·have:=zM r _ n h;omega
end
end Go.Im
namespace Go.Sp
open Go.Xp
structure Ed (p:Src) (ls:List (List S)):Prop where
 len:ls.length=p.fns.length
 at_:∀ (i:Nat) f l,p.fns[i]?=some f->ls[i]?=some l->0<=f.body/\S.cM l=true/\wt (bF l)<=1000000000/\∃ t,sub p.nodes (fN p.nodes) f.body.toNat=some t/\er t=bF l
theorem SX (a:E) (ho:a.ok=true):(a.txt).length+4<=wt a.tree:=(E.len a ho).1
theorem R6 {l:List S} (ho:S.cM l=true) (hw:wt (bF l)<=1000000000) :
  ∃ ts t q f,Go.Sp.iw (eV E.txt l)=some ts/\(eV E.txt l).length<=1000000000/\ts.length<=1000000000/\1+f<=1099511627776/\mS f (.block 1) ⟨ts,0,(eV E.txt l).length,0,0⟩=some (t,q)/\q.l=ts/\((q.code=0/\q.i=ts.length/\eu l 1=true)\/(q.code≠0/\eu l 1=false)):=by
 have hlen:=sx E.txt SX ho;generalize hx:eV E.txt l=x at *;obtain ⟨ts,h1,h2⟩:=(IK ho).all;rw [hx] at h2;have h3:=h2.len;have Da:On ⟨ts,0,x.length,0,0⟩ ts:=⟨rfl,Nat.zero_le _,rfl,h2.kinds⟩;have bP:rs (x.length:Int) (mo ts) (.block 1) ts≠.error aW:=vP;obtain ⟨t,q,h4,h5⟩:=(js (mo ts)).block 1 ts _ Da bP;have Rj:=Eu (e:=(x.length:Int)) (d:=1) (rest:=[]) ho h1;rw [append_nil] at Rj
 change iP _ q t (block (x.length:Int) 1 ts) at h5
 refine ⟨ts,t,q,KF (mo ts),h2.all,by omega,by omega,by unfold KF mo;omega,h4 _ (Nat.le_refl _),?_⟩
 cases hf:eu l 1 with
 | true =>
  obtain ⟨t',_,h6⟩:=Rj.1 hf;rw [h6] at h5;obtain ⟨_,h7,h8,_⟩:=h5;have h8:q.l=ts:=h8;refine ⟨h8,.inl ⟨h7.code,?_,rfl⟩⟩;have hr:=congrArg List.length h7.rest;have hle:=h7.le;rw [length_drop] at hr;rw [h8] at hr hle;simp only [length_nil] at hr;omega
 | false =>
  obtain ⟨pos,h6⟩:=Rj.2 hf;rw [h6] at h5;exact ⟨h5.2.2.2.1,.inr ⟨bE.err h5,rfl⟩⟩
end Go.Sp
namespace Go.Im
open Go.Xp Go.Sp
def KG (p:Src) (x:ah):Bool:=match mW x (x.length+1) 0 [] with
 | none=>false
 | some (ts,c,z)=>if c≠0 then false else match ni (ts.length+1) (40 * ts.length+100) ⟨ts,0,(x.length:Int),0,0⟩ .empty with
  | none=>false
  | some (q,st)=>if q.code≠0 then false else if az st.trees > 800 then false else same p st
def fI (p:Src):Bool:=if p.nodes.length > 800 then false else match ji p.nodes p.fns 0 [] with
 | none=>false
 | some (l,e)=>if e≠p.nodes.length then false else if l.all fP=false then false else KG p (mV cP ft p l)
theorem Ag {p:Src} {x:ah} {ts:List Tok} {c z:Int} {q:RS} {st:PS} (h:Reads x ts c z q st):KG p x=if c≠0 then false else if q.code≠0 then false else if az st.trees > 800 then false else same p st:=by
 unfold KG;rw [h.lex];simp only;rw [h.read]
theorem Yv {p:Src} {l:List T} {ls:List (List S)} (h:fJ p l) (hf:Forms l ls):fI p=ls.all fun b=>eu b 1:=by
 unfold fI;have h8:=h.few;rw [if_neg ao,h.Ew];simp only;rw [if_neg (by simp),if_neg (by rw [h.k];decide)];obtain ⟨ts,c,z,q,st,hr⟩:=reads (mV cP ft p l);obtain ⟨h1,h2,h3⟩:=KT h hf hr;rw [Ag hr,if_neg (by simpa using h1)]
 cases hb:ls.all fun b=>eu b 1 with
 | false=>rw [if_pos (h3 hb)]
 | true =>
  obtain ⟨k1,k2,k3⟩:=h2 hb;rw [if_neg (by simpa using k1),if_neg ao,k3]
theorem tV {p:Src} (h:fI p=true):∃ l,fJ p l:=by
 unfold fI at h
 by_cases h8:p.nodes.length > 800
 ·rw [if_pos h8] at h;cases h
 rw [if_neg h8] at h
 cases hb:ji p.nodes p.fns 0 [] with
 | none=>rw [hb] at h;cases h
 | some y =>
  obtain ⟨l,e⟩:=y;rw [hb] at h;simp only at h
  by_cases he:e=p.nodes.length
  ·subst he;rw [if_neg (by simp)] at h
   by_cases hk:l.all fP=false
   ·rw [if_pos hk] at h;cases h
   rw [if_neg hk] at h;obtain ⟨ts,c,z,q,st,hr⟩:=reads (mV cP ft p l);rw [Ag hr] at h;split at h
   ·cases h
   split at h
   ·cases h
   ·rename_i hc;split at h
    ·cases h
    ·exact ⟨l,KH ao hb (hr.ok (by simpa using hc)).1 h⟩
  ·rw [if_pos he] at h;cases h
theorem Yu {p:Src} (h:nY p=some false):fI p=false:=by
 cases hf:fI p with
 | false=>rfl
 | true =>
  obtain ⟨l,h1⟩:=tV hf;rw [h1.nY] at h;cases h
theorem dw.ix {nodes:List Nd}:∀ (l:List T) (a i:Nat) (t:T),dw nodes a l->l[i]?=some t->et nodes (a+az (l.take i)) t
 | [],a,i,t,_,h=>by simp at h
 | u::r,a,0,t,h,hi=>by
  cases hi;rw [dw] at h;exact h.1
 | u::r,a,i+1,t,h,hi=>by
  rw [dw] at h;have:=dw.ix r (a+aP u) i t h.2 (by simpa using hi);rw [take_succ_cons,az,<-Nat.add_assoc];exact this
mutual
theorem OG:∀ t:T,wt t<=jE t
 | .mk n l=>by have:=GK l;rw [wt,jE];omega
theorem GK:∀ l:List T,eG l<=fM l
 | []=>Nat.le_refl _
 | t::r=>by have:=OG t;have:=GK r;rw [eG,fM];omega
end
theorem LJ {p:Src} {l:List T} {ls:List (List S)} (h:fJ p l) (hf:Forms l ls) (hw:eh p<=1048576):Ed p ls:=by
 have hl:=fw.len h.fns;refine ⟨by rw [hf.len];omega,fun i f b h1 h2=>?_⟩;have hi:=(List.getElem?_eq_some_iff.1 h2).1;have hlen:=hf.len
 have ht:l[i]?=some (l[i]'ao):=by simp [<-hlen,hi]
 obtain ⟨h3,h4⟩:=hf.at_ i _ b ht h2;obtain ⟨h5,h6⟩:=fw.at_ h.fns i f _ h1 ht;have h7:=dw.ix l 0 i _ h.st ht;rw [Nat.zero_add] at h5 h7;have hm:=mem_of_getElem? ht;have h8:=Gy h.st h.len _ hm;have h9:=OG (l[i]'ao);have kZ:=et.le _ _ h7;refine ⟨by omega,h3,by rw [<-h4,RV];omega,_,?_,h4⟩;rw [h5,Int.toNat_natCast];exact (vG _).1 _ _ h7 (by unfold fN;omega)
theorem nL {α:Type} (f:α->Nat) (l:List α) (k:Nat):be f (l.take k)<=be f l:=by
 have:be f l=be f (l.take k)+be f (l.drop k):=by rw [<-Au,take_append_drop]
 omega
structure aaf (p:Src) (i:Nat) (u:T) (a:E):Prop where
 ok:a.ok=true
 er:er u=a.tree
 sub:sub p.nodes (fN p.nodes) i=some u
 tr:∃ e,om p.nodes (p.nodes.length - i+1) i=some (u,e)
 k:fP u=true
 num:o0 u
 wt:jE u<=100 * eh p
 txt:cP u=a.txt
def si (w left:Nat):Int:=if w<=left then ((left - w:Nat):Int) else -1
theorem gk {w left:Nat} (h:w<=left):si w left=((left - w:Nat):Int):=by unfold si;rw [if_pos h]
theorem dH {w left:Nat} (h:left < w):si w left = -1:=by unfold si;rw [if_neg ao]
theorem nK {α:Type} (w:α->Nat) (l:List α):be (fun x=>w x+1) l=l.length+be w l:=by
 induction l with
 | nil=>rfl
 | cons x l ih=>rw [be,ih,be,length_cons];omega
theorem kG {α:Type} {w:α->Nat} {l:List α} {k:Nat} {x:α} (h:l[k]?=some x):be w (l.take (k+1))=be w (l.take k)+w x:=by
 have:l.take (k+1)=l.take k++[x]:=by rw [List.take_add_one,h];rfl
 rw [this,Au,be,be];rfl
theorem kT {α β:Type} {f:α->β} {l:List α} {k:Nat} {x:α} {Z:β} (h:l[k]?=some x):((l.take k).map f++List.replicate (l.length - k) Z).set k (f x)=(l.take (k+1)).map f++List.replicate (l.length - (k+1)) Z:=by
 have hk:=(List.getElem?_eq_some_iff.1 h).1
 have ht:l.take (k+1)=l.take k++[x]:=by rw [List.take_add_one,h];rfl
 have hl:((l.take k).map f).length=k:=by rw [length_map,length_take];omega
 rw [show l.length - k=(l.length - (k+1))+1 by omega,List.replicate_succ,List.set_append_right _ _ ao,hl,Nat.sub_self,List.set_cons_zero,ht,List.map_append];simp
theorem kR {α β:Type} {f:α->β} {l:List α} {k:Nat} {Z:β} (h:k<=l.length):((l.take k).map f++List.replicate (l.length - k) Z).length=l.length:=by
 rw [length_append,length_map,length_take,List.length_replicate];omega
theorem kQ {α β:Type} {f:α->β} {l:List α} {Z:β}:(l.take l.length).map f++List.replicate (l.length - l.length) Z=l.map f:=by
 rw [List.take_length,Nat.sub_self];simp
theorem CL {p:Src} {l:List T} (h:fJ p l):∀ a∈p.arrays,0<=a.size/\a.size<=2147483647:=fun a ha=>by
 have:=List.all_eq_true.1 h.arrays a ha;unfold oo at this;simp only [Bool.and_eq_true,Bool.not_eq_true',decide_eq_false_iff_not] at this;omega
end Go.Im
