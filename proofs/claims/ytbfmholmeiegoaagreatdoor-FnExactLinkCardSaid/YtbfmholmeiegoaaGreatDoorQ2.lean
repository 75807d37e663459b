/- Part 2 of proofs that are told in their last texts. -/
import Derived.Test.YtbfmholmeiegoaaGreatDoorQ1
open List (all_cons cons_append drop_left find?_eq_none flatMap_cons foldl_cons getElem?_take length_cons length_nil map_map mem_append mem_cons_self mem_singleton nil_append sum_cons tail_cons take_append_drop take_succ_cons take_zero zip_cons_cons)
set_option linter.unusedVariables false
set_option linter.unusedSimpArgs false
set_option maxRecDepth 100000
namespace Go.Xp
open Go.Sp (bt eZ)
section
variable {e:Int} {d:Nat} {ts rest:List Tok} {Q:T->Prop} {b:Bool}
theorem S.head {s:S} (ho:s.ok=true) (ht:ts.map kf=s.tk):∃ t r,ts=t::r/\∀ rest,sign (t::rest) 0≠eL/\sign (t::rest) 0≠[125]:=by
 cases s with
 | set s a =>
  rw [S.tk] at ht;obtain ⟨t,r,rfl,L,_⟩:=map_cons ht;obtain ⟨L,_⟩:=qE L;exact ⟨t,r,rfl,fun rest=>⟨jt L av,jt L av⟩⟩
 | put s a b =>
  rw [S.tk] at ht;obtain ⟨t,r,rfl,L,_⟩:=map_cons ht;obtain ⟨L,_⟩:=qE L;exact ⟨t,r,rfl,fun rest=>⟨jt L av,jt L av⟩⟩
 | if1 c b =>
  rw [S.tk] at ht;obtain ⟨t,r,rfl,L,_⟩:=map_cons ht;exact ⟨t,r,rfl,fun rest=>by rw [tI L];decide⟩
 | if2 c b b2 =>
  rw [S.tk] at ht;obtain ⟨t,r,rfl,L,_⟩:=map_cons ht;exact ⟨t,r,rfl,fun rest=>by rw [tI L];decide⟩
 | while_ c b =>
  rw [S.tk] at ht;obtain ⟨t,r,rfl,L,_⟩:=map_cons ht;exact ⟨t,r,rfl,fun rest=>by rw [tI L];decide⟩
 | ret a =>
  rw [S.tk] at ht;obtain ⟨t,r,rfl,L,_⟩:=map_cons ht;exact ⟨t,r,rfl,fun rest=>by rw [tI L];decide⟩
 | var s a =>
  rw [S.tk] at ht;obtain ⟨t,r,rfl,L,_⟩:=map_cons ht;exact ⟨t,r,rfl,fun rest=>by rw [tI L];decide⟩
 | do_ a =>
  simp only [S.ok] at ho;obtain ⟨k0,r0,hh,hf⟩:=E.head a ho;rw [S.tk,hh] at ht;obtain ⟨t,r,rfl,L,_⟩:=map_cons ht;refine ⟨t,r,rfl,fun rest=>?_⟩
  rcases AF (r:=rest) (by rw [L];exact hf) with h | h | h | h | h <;> (rw [h];decide)
def rW (l:List S):Prop:=∀ (e:Int) (d:Nat) (acc:List T) (ts rest:List Tok) (u:Tok),S.db l=true->ts.map kf=S.nJ l->u.kind=3->u.s=[125] ->
 (S.fits l d=true->∃ ys,aS ys=S.trees l/\Eb e d acc (ts++u::rest) (.ok (acc++ys,rest)))/\(S.fits l d=false->∃ pos,Eb e d acc (ts++u::rest) (.error (9,pos)))
theorem LQ:rW []:=by
 intro e d acc ts rest u _ ht hu gh
 have:ts=[]:=by simpa [S.nJ] using ht
 subst this;refine ⟨fun _=>⟨[],rfl,1,fun f hf=>?_⟩,fun h=>by simp [S.fits] at h⟩;obtain ⟨f,rfl⟩:∃ g,f=g+1:=⟨f - 1,by omega⟩;rw [rs.body,ab (by exact uB hu gh),cq];rfl
theorem J0 {a:S} {l:List S} (Ca:rX a) (Cl:rW l):rW (a::l):=by
 intro e d acc ts rest u ho ht hu gh;simp only [S.db,aH] at ho;rw [S.nJ] at ht;obtain ⟨A,B,rfl,h3,h4⟩:=dx ht;obtain ⟨t,r,rfl,hh⟩:=S.head ho.1 h3
 have cr:sign (B++u::rest) 0≠eL:=by
  cases l with
  | nil =>
   have:B=[]:=by simpa [S.nJ] using h4
   subst this;rw [nil_append,uB hu gh];decide
  | cons a' l' =>
   simp only [S.db,aH] at ho;rw [S.nJ] at h4;obtain ⟨A',B',rfl,h5,h6⟩:=dx h4;obtain ⟨t',r',rfl,hh'⟩:=S.head ho.2.1 h5;exact (hh' _).1
 have hx:=Ca e d (t::r) (B++u::rest) ho.1 h3 cr
 have he:t::r++B++u::rest=t::r++(B++u::rest):=by simp
 have hs:sign (t::r++(B++u::rest)) 0≠[125]:=(hh _).2;rw [he,S.fits]
 cases hfa:a.fit d with
 | false =>
  refine ⟨fun hb=>(by simp at hb),fun _=>?_⟩;obtain ⟨pos,f0,h0⟩:=hx.2 hfa;refine ⟨pos,f0+1,fun f hf=>?_⟩;obtain ⟨f,rfl⟩:∃ g,f=g+1:=⟨f - 1,by omega⟩;rw [rs.body,M hs,h0 f aq]
 | true =>
  obtain ⟨ta,k1,f0,h0⟩:=hx.1 hfa;have hl:=Cl e d (acc++[ta]) B rest u ho.2 h4 hu gh;refine ⟨fun hb=>?_,fun hb=>?_⟩
  ·obtain ⟨ys,k3,cX,k4⟩:=hl.1 (by simpa using hb);refine ⟨ta::ys,by rw [aS,k1,k3,S.trees],f0+cX+1,fun f hf=>?_⟩;obtain ⟨f,rfl⟩:∃ g,f=g+1:=⟨f - 1,by omega⟩;rw [rs.body,M hs,h0 f aq];simp only;rw [k4 f aq,cK];rfl
  ·obtain ⟨pos,cX,k3⟩:=hl.2 (by simpa using hb);refine ⟨pos,f0+cX+1,fun f hf=>?_⟩;obtain ⟨f,rfl⟩:∃ g,f=g+1:=⟨f - 1,by omega⟩;rw [rs.body,M hs,h0 f aq];exact k3 f aq
theorem rW.blk {l:List S} (C:rW l) {A:List Tok} {u w:Tok} (ho:S.db l=true) (ht:A.map kf=S.nJ l) (hu:u.kind=3) (gh:u.s=[123]) (hw:w.kind=3) (DV:w.s=[125]) :
  Sx e (.block d) (u::(A++w::rest)) rest (fun t=>er t=.mk ⟨14,0,0,[],[]⟩ (S.trees l)) (decide (d<=60)&&S.fits l (d+1)):=by
 have hb:=C e (d+1) [] A rest w ho ht hw DV
 by_cases hd:d<=60
 ·have:(decide (d<=60)&&S.fits l (d+1))=S.fits l (d+1):=by simp [hd]
  rw [this];refine ⟨fun h=>?_,fun h=>?_⟩
  ·obtain ⟨ys,k1,f0,h0⟩:=hb.1 h;refine ⟨one 14 u.at_ [] ys,by show er _=_;rw [ed,k1],f0+1,fun f hf=>?_⟩;obtain ⟨f,rfl⟩:∃ g,f=g+1:=⟨f - 1,by omega⟩;rw [rs,M aq,rH hu gh];simp only;rw [h0 f aq];rfl
  ·obtain ⟨pos,f0,h0⟩:=hb.2 h;refine ⟨pos,f0+1,fun f hf=>?_⟩;obtain ⟨f,rfl⟩:∃ g,f=g+1:=⟨f - 1,by omega⟩;rw [rs,M aq,rH hu gh];simp only;rw [h0 f aq]
 ·have:(decide (d<=60)&&S.fits l (d+1))=false:=by simp [hd]
  rw [this];exact ⟨fun hb=>(by cases hb),fun _=>⟨_,sS fun f=>by rw [rs,ab aq]⟩⟩
theorem yc {j:rv} {x:Rd T} {jC:List Tok} {j':rv} {x':Rd T} (h:Es e j ts x) (hs:∀ f,rs e f j ts=x->rs e (f+1) j' jC=x'):Es e j' jC x':=by
 obtain ⟨f0,h0⟩:=h;refine ⟨f0+1,fun f hf=>?_⟩;obtain ⟨f,rfl⟩:∃ g,f=g+1:=⟨f - 1,by omega⟩;exact hs f (h0 f aq)
theorem Iv {j j2:rv} {x x2:Rd T} {jC wG:List Tok} {j':rv} {x':Rd T} (h:Es e j ts x) (I:Es e j2 wG x2) (hs:∀ f,rs e f j ts=x->rs e f j2 wG=x2->rs e (f+1) j' jC=x'):Es e j' jC x':=by
 obtain ⟨f0,h0⟩:=h;obtain ⟨cX,L⟩:=I;refine ⟨f0+cX+1,fun f hf=>?_⟩;obtain ⟨f,rfl⟩:∃ g,f=g+1:=⟨f - 1,by omega⟩;exact hs f (h0 f aq) (L f aq)
theorem OO (c:E) {l:List S} (C:rW l):rX (.if1 c l):=by
 intro e d ts rest ho ht eI;simp only [S.ok,aH] at ho;rw [S.tk] at ht;obtain ⟨v,r,rfl,L,I⟩:=map_cons ht;obtain ⟨u,r,rfl,h3,h4⟩:=map_cons I;obtain ⟨A,r,rfl,h5,h6⟩:=dx h4;obtain ⟨w,r,rfl,h7,h8⟩:=map_cons h6;obtain ⟨x,r,rfl,h9,mc⟩:=map_cons h8;obtain ⟨B,r,rfl,pz,o0⟩:=dx mc;obtain ⟨y,rfl,fm⟩:=iO o0;obtain ⟨L,c7⟩:=eC L;obtain ⟨h3,kX⟩:=eC h3;obtain ⟨h7,lB⟩:=eC h7;obtain ⟨h9,DH⟩:=eC h9;obtain ⟨fm,AH⟩:=eC fm
 have he:v::u::(A++w::x::(B++[y]))++rest=v::u::(A++w::(x::(B++y::rest))):=by simp
 have hi:=vY (e:=e) (d:=d+1) (rest:=x::(B++y::rest)) ho.1 h5 h3 kX h7 lB (by simp);have hb:=C.blk (e:=e) (d:=d+1) (rest:=rest) ho.2 pz h9 DH fm AH;have hv:=uB (rest:=u::(A++w::(x::(B++y::rest)))) L c7;rw [he,S.fit]
 refine qj fun hd=>?_
 cases hfa:qt c (d+1) with
 | false =>
  refine ⟨fun hb=>(by simp at hb),fun _=>?_⟩;obtain ⟨pos,k1⟩:=hi.2 hfa;refine ⟨pos,sS fun f=>?_⟩;rw [rs,M aq];simp only;rw [M (by rw [hv];decide),ab (.inl hv),tail_cons,k1]
 | true =>
  obtain ⟨tc,k1,k2⟩:=hi.1 hfa;rw [Bool.true_and];refine ⟨fun h=>?_,fun h=>?_⟩
  ·obtain ⟨tb,k3,k4⟩:=hb.1 h;refine ⟨one 9 v.at_ [] [tc,tb],by show er _=_;rw [ed,aS,aS,k1,k3,S.tree];rfl,yc k4 fun f k4=>?_⟩;rw [rs,M aq];simp only;rw [M (by rw [hv];decide),ab (.inl hv),tail_cons,k2];simp only;rw [k4];simp only;rw [ab hv,M eI];rfl
  ·obtain ⟨pos,k3⟩:=hb.2 h;refine ⟨pos,yc k3 fun f k3=>?_⟩;rw [rs,M aq];simp only;rw [M (by rw [hv];decide),ab (.inl hv),tail_cons,k2];simp only;rw [k3]
theorem J4 (c:E) {l:List S} (C:rW l):rX (.while_ c l):=by
 intro e d ts rest ho ht eI;simp only [S.ok,aH] at ho;rw [S.tk] at ht;obtain ⟨v,r,rfl,L,I⟩:=map_cons ht;obtain ⟨u,r,rfl,h3,h4⟩:=map_cons I;obtain ⟨A,r,rfl,h5,h6⟩:=dx h4;obtain ⟨w,r,rfl,h7,h8⟩:=map_cons h6;obtain ⟨x,r,rfl,h9,mc⟩:=map_cons h8;obtain ⟨B,r,rfl,pz,o0⟩:=dx mc;obtain ⟨y,rfl,fm⟩:=iO o0;obtain ⟨L,c7⟩:=eC L;obtain ⟨h3,kX⟩:=eC h3;obtain ⟨h7,lB⟩:=eC h7;obtain ⟨h9,DH⟩:=eC h9;obtain ⟨fm,AH⟩:=eC fm
 have he:v::u::(A++w::x::(B++[y]))++rest=v::u::(A++w::(x::(B++y::rest))):=by simp
 have hi:=vY (e:=e) (d:=d+1) (rest:=x::(B++y::rest)) ho.1 h5 h3 kX h7 lB (by simp);have hb:=C.blk (e:=e) (d:=d+1) (rest:=rest) ho.2 pz h9 DH fm AH;have hv:=uB (rest:=u::(A++w::(x::(B++y::rest)))) L c7;rw [he,S.fit]
 refine qj fun hd=>?_
 cases hfa:qt c (d+1) with
 | false =>
  refine ⟨fun hb=>(by simp at hb),fun _=>?_⟩;obtain ⟨pos,k1⟩:=hi.2 hfa;refine ⟨pos,sS fun f=>?_⟩;rw [rs,M aq];simp only;rw [M (by rw [hv];decide),ab (.inr hv),tail_cons,k1]
 | true =>
  obtain ⟨tc,k1,k2⟩:=hi.1 hfa;rw [Bool.true_and];refine ⟨fun h=>?_,fun h=>?_⟩
  ·obtain ⟨tb,k3,k4⟩:=hb.1 h;refine ⟨one 10 v.at_ [] [tc,tb],by show er _=_;rw [ed,aS,aS,k1,k3,S.tree];rfl,yc k4 fun f k4=>?_⟩;rw [rs,M aq];simp only;rw [M (by rw [hv];decide),ab (.inr hv),tail_cons,k2];simp only;rw [k4];simp only;rw [M (by rw [hv];decide)];rfl
  ·obtain ⟨pos,k3⟩:=hb.2 h;refine ⟨pos,yc k3 fun f k3=>?_⟩;rw [rs,M aq];simp only;rw [M (by rw [hv];decide),ab (.inr hv),tail_cons,k2];simp only;rw [k3]
theorem OR (c:E) {l l2:List S} (C:rW l) (C2:rW l2):rX (.if2 c l l2):=by
 intro e d ts rest ho ht eI;simp only [S.ok,aH] at ho;rw [S.tk] at ht;obtain ⟨v,r,rfl,L,I⟩:=map_cons ht;obtain ⟨u,r,rfl,h3,h4⟩:=map_cons I;obtain ⟨A,r,rfl,h5,h6⟩:=dx h4;obtain ⟨w,r,rfl,h7,h8⟩:=map_cons h6;obtain ⟨x,r,rfl,h9,mc⟩:=map_cons h8;obtain ⟨B,r,rfl,pz,o0⟩:=dx mc;obtain ⟨y,r,rfl,fm,Br⟩:=map_cons o0;obtain ⟨z,r,rfl,TQ,h16⟩:=map_cons Br;obtain ⟨x2,r,rfl,TR,h18⟩:=map_cons h16;obtain ⟨B2,r,rfl,h19,h20⟩:=dx h18;obtain ⟨y2,rfl,ID⟩:=iO h20;obtain ⟨L,c7⟩:=eC L;obtain ⟨h3,kX⟩:=eC h3;obtain ⟨h7,lB⟩:=eC h7;obtain ⟨h9,DH⟩:=eC h9;obtain ⟨fm,AH⟩:=eC fm;obtain ⟨TQ,YI⟩:=eC TQ;obtain ⟨TR,YJ⟩:=eC TR;obtain ⟨ID,YK⟩:=eC ID
 have he:v::u::(A++w::x::(B++y::z::x2::(B2++[y2])))++rest=v::u::(A++w::(x::(B++y::(z::(x2::(B2++y2::rest)))))):=by simp
 have hi:=vY (e:=e) (d:=d+1) (rest:=x::(B++y::(z::(x2::(B2++y2::rest))))) ho.1 h5 h3 kX h7 lB (by simp);have hb:=C.blk (e:=e) (d:=d+1) (rest:=z::(x2::(B2++y2::rest))) ho.2.1 pz h9 DH fm AH;have fg:=C2.blk (e:=e) (d:=d+1) (rest:=rest) ho.2.2 h19 TR YJ ID YK;have hv:=uB (rest:=u::(A++w::(x::(B++y::(z::(x2::(B2++y2::rest))))))) L c7;have hz:=uB (rest:=x2::(B2++y2::rest)) TQ YI;rw [he,S.fit]
 refine qj fun hd=>?_
 cases hfa:qt c (d+1) with
 | false =>
  refine ⟨fun hb=>(by simp at hb),fun _=>?_⟩;obtain ⟨pos,k1⟩:=hi.2 hfa;refine ⟨pos,sS fun f=>?_⟩;rw [rs,M aq];simp only;rw [M (by rw [hv];decide),ab (.inl hv),tail_cons,k1]
 | true =>
  obtain ⟨tc,k1,k2⟩:=hi.1 hfa;rw [Bool.true_and]
  cases hfb:(decide (d+1<=60)&&S.fits l (d+2)) with
  | false =>
   refine ⟨fun hb=>(by simp at hb),fun _=>?_⟩;obtain ⟨pos,k3⟩:=hb.2 hfb;refine ⟨pos,yc k3 fun f k3=>?_⟩;rw [rs,M aq];simp only;rw [M (by rw [hv];decide),ab (.inl hv),tail_cons,k2];simp only;rw [k3]
  | true =>
   obtain ⟨tb,k3,k4⟩:=hb.1 hfb;rw [Bool.true_and];refine ⟨fun h=>?_,fun h=>?_⟩
   ·obtain ⟨tb2,k5,k6⟩:=fg.1 h;refine ⟨one 9 v.at_ [] [tc,tb,tb2],by show er _=_;rw [ed,aS,aS,aS,k1,k3,k5,S.tree];rfl,Iv k4 k6 fun f k4 k6=>?_⟩;rw [rs,M aq];simp only;rw [M (by rw [hv];decide),ab (.inl hv),tail_cons,k2];simp only;rw [k4];simp only;rw [ab hv,ab hz,tail_cons,k6];rfl
   ·obtain ⟨pos,k5⟩:=fg.2 h;refine ⟨pos,Iv k4 k5 fun f k4 k5=>?_⟩;rw [rs,M aq];simp only;rw [M (by rw [hv];decide),ab (.inl hv),tail_cons,k2];simp only;rw [k4];simp only;rw [ab hv,ab hz,tail_cons,k5]
end
mutual
theorem coreS:∀ (s:S),rX s
 | .set s a=>OV s a
 | .put s a b=>OT s a b
 | .if1 c b=>OO c (zd b)
 | .if2 c b b2=>OR c (zd b) (zd b2)
 | .while_ c b=>J4 c (zd b)
 | .ret a=>OU a
 | .do_ a=>RY a
 | .var s a=>OW s a
theorem zd:∀ (l:List S),rW l
 | []=>LQ
 | a::l=>J0 (coreS a) (zd l)
end
def JV (l:List S):List K:=kS [123]::(S.nJ l++[kS [125]])
def bU (l:List S):T:=.mk ⟨14,0,0,[],[]⟩ (S.trees l)
def eU (l:List S) (d:Nat):Bool:=decide (d<=60)&&S.fits l (d+1)
theorem W2 (e:Int):∀ f,(∀ j ts,rs e f j ts=.error bc\/rs e (f+1) j ts=rs e f j ts)/\(∀ d acc ts,rs.body e f d acc ts=.error bc\/rs.body e (f+1) d acc ts=rs.body e f d acc ts):=by
 intro f
 induction f with
 | zero=>exact ⟨fun j ts=>.inl (by simp [rs]),fun d acc ts=>.inl (by simp [rs.body])⟩
 | succ f ih =>
  obtain ⟨i1,i2⟩:=ih;refine ⟨fun j ts=>?_,fun d acc ts=>?_⟩
  ·cases j with
   | block d =>
    rw [rs,rs];split
    ·exact .inr rfl
    ·cases aP e [123] ts with
     | error x=>exact .inr rfl
     | ok r =>
      simp only
      rcases i2 (d+1) [] r with h | h
      ·left;rw [h]
      ·rw [h];exact .inr rfl
   | stmt d =>
    rw [rs,rs];split
    ·exact .inr rfl
    ·simp only;split
     ·exact .inr rfl
     ·split
      ·cases inner e (d+1) [40] [41] ts.tail with
       | error x=>exact .inr rfl
       | ok y =>
        obtain ⟨c,r⟩:=y;simp only
        rcases i1 (.block (d+1)) r with h | h
        ·left;rw [h]
        ·rw [h]
         cases rs e f (.block (d+1)) r with
         | error x=>exact .inr rfl
         | ok y =>
          obtain ⟨b,r⟩:=y;simp only;split
          ·split
           ·rcases i1 (.block (d+1)) r.tail with h | h
            ·left;rw [h]
            ·rw [h];exact .inr rfl
           ·exact .inr rfl
          ·exact .inr rfl
      ·exact .inr rfl
  ·rw [rs.body,rs.body];split
   ·exact .inr rfl
   ·rcases i1 (.stmt d) ts with h | h
    ·left;rw [h]
    ·rw [h]
     cases rs e f (.stmt d) ts with
     | error x=>exact .inr rfl
     | ok y=>exact i2 _ _ _
theorem SN {e:Int} {f f':Nat} {j:rv} {ts:List Tok} (h:rs e f j ts≠.error bc) (hf:f<=f'):rs e f' j ts=rs e f j ts:=by
 obtain ⟨k,rfl⟩:=Nat.exists_eq_add_of_le hf;clear hf
 induction k with
 | zero=>rfl
 | succ k ih =>
  rcases (W2 e (f+k)).1 j ts with L | L
  ·rw [ih] at L;exact absurd L h
  ·rw [<-fP,L,ih]
theorem EZ {l:List S} {e:Int} {d:Nat} {ts rest:List Tok} (ho:S.db l=true) (ht:ts.map kf=JV l) :
  (eU l d=true->∃ t,er t=bU l/\block e d (ts++rest)=.ok (t,rest))/\(eU l d=false->∃ pos,block e d (ts++rest)=.error (9,pos)):=by
 obtain ⟨u,r,rfl,L,I⟩:=map_cons ht;obtain ⟨A,r,rfl,h3,h4⟩:=dx I;obtain ⟨w,rfl,h5⟩:=iO h4;obtain ⟨L,c7⟩:=eC L;obtain ⟨h5,QN⟩:=eC h5;have hb:=(zd l).blk (e:=e) (d:=d) (rest:=rest) ho h3 L c7 h5 QN
 have he:u::(A++[w])++rest=u::(A++w::rest):=by simp
 rw [he]
 have key:∀ {x:Rd T},Es e (.block d) (u::(A++w::rest)) x->block e d (u::(A++w::rest))=x:=by
  rintro x ⟨f0,h0⟩;have cr:rs e (nz (u::(A++w::rest))) (.block d) (u::(A++w::rest))≠.error bc:=wP;have:=SN cr (Nat.le_add_left _ f0);rw [h0 _ aq] at this;exact this.symm
 exact ⟨fun h=>by obtain ⟨t,k1,k2⟩:=hb.1 h;exact ⟨t,k1,key k2⟩,fun h=>by obtain ⟨pos,k1⟩:=hb.2 h;exact ⟨pos,key k1⟩⟩
end Go.Xp
namespace Go.Xp
open Go.Sp (bt eZ dv cy b9 own nF gU bB)
def zK (n:Int):Int:=if n % 4294967296 > 2147483647 then n % 4294967296 - 4294967296 else n % 4294967296
def c6 (n:Nat):ae:=if h:n < 10 then [UInt8.ofNat (48+n)] else c6 (n / 10)++[UInt8.ofNat (48+n % 10)]
termination_by n
decreasing_by omega
theorem pQ (n:Nat):(c6 n).length<=n+1:=by
 induction n using Nat.strongRecOn with
 | _ n ih =>
 unfold c6
 by_cases h:n < 10
 ·rw [dif_pos h];simp
 ·rw [dif_neg h,aU];have:=ih (n / 10) aq;simp;omega
def bQ:List ae->ae
 | []=>[]
 | x::r=>x++r.flatMap fun y=>44::32::y
theorem BS {l:List ae} (h:l≠[]) (x:ae):bQ (l++[x])=(bQ l++[44,32])++x:=by
 cases l with
 | nil=>exact absurd rfl h
 | cons a l=>simp [bQ,List.flatMap_append]
theorem xe (l:List ae) (k:Nat):(bQ (l.take k)).length<=(bQ l).length:=by
 cases l with
 | nil=>simp
 | cons a l =>
  cases k with
  | zero=>simp [bQ]
  | succ k =>
   simp only [take_succ_cons,bQ,aU]
   have:∀ (l:List ae) (k:Nat),((l.take k).flatMap fun y=>(44:UInt8)::32::y).length<=(l.flatMap fun y=>(44:UInt8)::32::y).length:=by
    intro l
    induction l with
    | nil=>intro k;simp
    | cons b l ih=>intro k;cases k with
     | zero=>simp
     | succ k=>simp only [take_succ_cons,flatMap_cons,aU];have:=ih k;omega
   have:=this l k;omega
def qZ (lv k:Nat) (x:ae):ae:=if lv < k then (40::x)++[41] else x
mutual
def E.bu:E->ae
 | .num n=>c6 n.toNat
 | .name s=>s
 | .at_ s a=>((s++[91])++a.bu)++[93]
 | .call s l=>((s++[40])++bQ (E.da l))++[41]
 | .un s a=>(s++[32])++qZ a.lv 9 a.bu
 | .bin s a b=>(((qZ a.lv (ep s) a.bu++[32])++s)++[32])++qZ b.lv (ep s+1) b.bu
def E.da:List E->List ae
 | []=>[]
 | a::l=>a.bu::E.da l
end
mutual
def E.full:E->ae
 | .num n=>c6 n.toNat
 | .name s=>s
 | .at_ s a=>((s++[91])++a.full)++[93]
 | .call s l=>((s++[40])++bQ (E.th l))++[41]
 | .un s a=>((40::s)++a.full)++[41]
 | .bin s a b=>(((((40::a.full)++[32])++s)++[32])++b.full)++[41]
def E.th:List E->List ae
 | []=>[]
 | a::l=>a.full::E.th l
end
theorem E.Qm (l:List E):E.da l=l.map E.bu:=by
 induction l with
 | nil=>rfl
 | cons a l ih=>rw [E.da,ih];rfl
theorem E.Mi (l:List E):E.th l=l.map E.full:=by
 induction l with
 | nil=>rfl
 | cons a l ih=>rw [E.th,ih];rfl
def E.out (least:Bool) (a:E):ae:=if least then a.bu else a.full
mutual
def S.bu (x:E->ae):S->ae
 | .set s a=>((s++[32,61,32])++x a)++[59]
 | .put s a b=>((((s++[91])++x a)++[93,32,61,32])++x b)++[59]
 | .if1 c b=>(([105,102,32,40]++x c)++[41,32])++(S.da x [123,32] b++[125])
 | .if2 c b b2=>(((([105,102,32,40]++x c)++[41,32])++(S.da x [123,32] b++[125]))++[32,101,108,115,101,32])++(S.da x [123,32] b2++[125])
 | .while_ c b=>(([119,104,105,108,101,32,40]++x c)++[41,32])++(S.da x [123,32] b++[125])
 | .ret a=>([114,101,116,117,114,110,32]++x a)++[59]
 | .do_ a=>x a++[59]
 | .var s a=>((([118,97,114,32]++s)++[32,61,32])++x a)++[59]
def S.da (x:E->ae):ae->List S->ae
 | acc,[]=>acc
 | acc,a::l=>S.da x ((acc++a.bu x)++[32]) l
end
def fA (x:E->ae) (l:List S):ae:=S.da x [123,32] l++[125]
theorem H6 (n:Nd) (l:List T):dv (.mk n l)=(cy l&&b9 (.mk n l)):=by rw [dv]
theorem uP {l:List T} (h:cy l=true) {t:T} (ht:t∈l):dv t=true:=by
 induction l with
 | nil=>cases ht
 | cons a l ih =>
  rw [cy,aH] at h
  rcases dA ht with rfl | ht
  ·exact h.1
  ·exact ih h.2 ht
theorem nf (n:Nd) (l:List T):er (.mk n l)=.mk ⟨n.kind,0,n.n,n.s,[]⟩ (aS l):=by rw [er]
theorem jk {l:List T} {m i:Nat} (h:bB m i l=true):∀ (j:Nat) t,l[j]?=some t->(if i+j < m then nF t.n.kind else t.n.kind==14)=true:=by
 induction l generalizing i with
 | nil=>intro j t h;simp at h
 | cons a l ih =>
  rw [bB,aH] at h;intro j t hj
  cases j with
  | zero=>cases hj;exact h.1
  | succ j=>have:=ih h.2 j t (by simpa using hj);rw [show i+(j+1)=i+1+j by omega];exact this
theorem Fb:∀ (l:List T),(∀ t∈l,∃ a:E,a.ok=true/\er t=a.tree)->∃ es:List E,E.db es=true/\aS l=E.trees es
 | [],_=>⟨[],rfl,rfl⟩
 | t::l,h=>by
  obtain ⟨a,L,I⟩:=h t (mem_cons_self);obtain ⟨es,h3,h4⟩:=Fb l (fun t ht=>h t (di _ ht));exact ⟨a::es,by simp [E.db,L,h3],by rw [aS,E.trees,I,h4]⟩
theorem toE:∀ (sz:Nat) (t:T),sizeOf t<=sz->dv t=true->nF t.n.kind=true->∃ a:E,a.ok=true/\er t=a.tree:=by
 intro sz
 induction sz with
 | zero=>intro t h;cases t;simp at h
 | succ sz ih =>
  intro t dE ha hk;obtain ⟨n,l⟩:=t;rw [H6,aH] at ha;obtain ⟨ha,ho⟩:=ha
  have qB:∀ t∈l,nF t.n.kind=true->∃ a:E,a.ok=true/\er t=a.tree:=fun t ht hk=>by
   have:=List.sizeOf_lt_of_mem ht;exact ih t (by simp at dE;omega) (uP ha ht) hk
  obtain ⟨k,at_,v,s,ks⟩:=n
  have hk:(1:Int)<=k/\k<=6:=by
   simp only [nF,T.n,aH] at hk;exact ⟨nw hk.1,nw hk.2⟩
  simp only [b9,own,T.n,T.kids] at ho
  obtain rfl | rfl | rfl | rfl | rfl | rfl:k=1\/k=2\/k=3\/k=4\/k=5\/k=6:=by omega
  ·simp at ho;obtain ⟨L,I,h3,h4,h5⟩:=ho;subst h4 h5;exact ⟨.num v,by simp only [E.ok,aH];exact ⟨I,h3⟩,by rw [nf,E.tree];rfl⟩
  ·simp at ho;obtain ⟨L,I,h3,h4⟩:=ho;subst I h4;exact ⟨.name s,by simp [E.ok,h3],by rw [nf,E.tree];rfl⟩
  ·simp at ho;obtain ⟨L,I,h3,h4,h5⟩:=ho;subst I
   match l,h4 with
   | [t],_ =>
    have xJ:=jk h5 0 t rfl;obtain ⟨a,h6,h7⟩:=qB t (by simp) (by simpa using xJ);exact ⟨.at_ s a,by simp [E.ok,h3,h6],by rw [nf,E.tree,aS,h7];rfl⟩
  ·simp at ho;obtain ⟨L,I,h3,h5⟩:=ho;subst I
   obtain ⟨es,h6,h7⟩:=Fb l fun t ht=>qB t ht (by
    obtain ⟨j,hj⟩:=List.mem_iff_getElem?.1 ht;have ak:=(bp hj).1;have:=jk h5 j t hj
    rw [ab aq] at this;exact this)
   exact ⟨.call s es,by simp [E.ok,h3,h6],by rw [nf,E.tree,h7]⟩
  ·simp at ho;obtain ⟨L,I,h3,h4,h5⟩:=ho;subst I
   match l,h4 with
   | [t],_ =>
    have xJ:=jk h5 0 t rfl;obtain ⟨a,h6,h7⟩:=qB t (by simp) (by simpa using xJ);exact ⟨.un s a,by simp only [E.ok,h6,Bool.and_true,Bool.or_eq_true,beq_iff_eq];exact h3,by rw [nf,E.tree,aS,h7];rfl⟩
  ·simp at ho;obtain ⟨L,I,h3,h4,h5⟩:=ho;subst I
   match l,h4 with
   | [t,u],_ =>
    have xJ:=jk h5 0 t rfl;have hku:=jk h5 1 u rfl;obtain ⟨a,h6,h7⟩:=qB t (by simp) (by simpa using xJ);obtain ⟨b,h8,h9⟩:=qB u (by simp) (by simpa using hku);exact ⟨.bin s a b,by simp [E.ok,h3,h6,h8],by rw [nf,E.tree,aS,aS,h7,h9];rfl⟩
theorem GP:∀ (l:List T),(∀ t∈l,∃ a:S,a.ok=true/\er t=a.tree)->∃ es:List S,S.db es=true/\aS l=S.trees es
 | [],_=>⟨[],rfl,rfl⟩
 | t::l,h=>by
  obtain ⟨a,L,I⟩:=h t (mem_cons_self);obtain ⟨es,h3,h4⟩:=GP l (fun t ht=>h t (di _ ht));exact ⟨a::es,by simp [S.db,L,h3],by rw [aS,S.trees,I,h4]⟩
theorem toS:∀ (sz:Nat) (t:T),sizeOf t<=sz->dv t=true->(gU t.n.kind=true->∃ a:S,a.ok=true/\er t=a.tree)/\(t.n.kind=14->∃ l:List S,S.db l=true/\er t=bU l):=by
 intro sz
 induction sz with
 | zero=>intro t h;cases t;simp at h
 | succ sz ih =>
  intro t dE ha;obtain ⟨n,l⟩:=t;rw [H6,aH] at ha;obtain ⟨ha,ho⟩:=ha
  have hex:∀ t∈l,nF t.n.kind=true->∃ a:E,a.ok=true/\er t=a.tree:=fun t ht hk=>toE _ t (aD _) (uP ha ht) hk
  have dZ:∀ t∈l,t.n.kind=14->∃ l:List S,S.db l=true/\er t=bU l:=fun t ht hk=>by
   have:=List.sizeOf_lt_of_mem ht;exact (ih t (by simp at dE;omega) (uP ha ht)).2 hk
  have cz:∀ t∈l,gU t.n.kind=true->∃ a:S,a.ok=true/\er t=a.tree:=fun t ht hk=>by
   have:=List.sizeOf_lt_of_mem ht;exact (ih t (by simp at dE;omega) (uP ha ht)).1 hk
  obtain ⟨k,at_,v,s,ks⟩:=n;simp only [b9,own,T.n,T.kids] at ho;refine ⟨fun hk=>?_,fun hk=>?_⟩
  ·have hk:(7:Int)<=k/\k<=13:=by
    simp only [gU,T.n,aH] at hk;exact ⟨nw hk.1,nw hk.2⟩
   obtain rfl | rfl | rfl | rfl | rfl | rfl | rfl:k=7\/k=8\/k=9\/k=10\/k=11\/k=12\/k=13:=by omega
   ·simp at ho;obtain ⟨L,I,h3,h4,h5⟩:=ho;subst I
    match l,h4 with
    | [t],_ =>
     obtain ⟨a,h6,h7⟩:=hex t (by simp) (by simpa using jk h5 0 t rfl);exact ⟨.set s a,by simp [S.ok,h3,h6],by rw [nf,S.tree,aS,h7];rfl⟩
   ·simp at ho;obtain ⟨L,I,h3,h4,h5⟩:=ho;subst I
    match l,h4 with
    | [t,u],_ =>
     obtain ⟨a,h6,h7⟩:=hex t (by simp) (by simpa using jk h5 0 t rfl);obtain ⟨b,h8,h9⟩:=hex u (by simp) (by simpa using jk h5 1 u rfl);exact ⟨.put s a b,by simp [S.ok,h3,h6,h8],by rw [nf,S.tree,aS,aS,h7,h9];rfl⟩
   ·simp at ho;obtain ⟨L,I,h3,h4,h5⟩:=ho;subst I h3
    rcases h4 with h4 | h4
    ·match l,h4 with
     | [t,u],_ =>
      obtain ⟨a,h6,h7⟩:=hex t (by simp) (by simpa using jk h5 0 t rfl);obtain ⟨b,h8,h9⟩:=dZ u (by simp) (by simpa using jk h5 1 u rfl);exact ⟨.if1 a b,by simp [S.ok,h6,h8],by rw [nf,S.tree,aS,aS,h7,h9];rfl⟩
    ·match l,h4 with
     | [t,u,w],_ =>
      obtain ⟨a,h6,h7⟩:=hex t (by simp) (by simpa using jk h5 0 t rfl);obtain ⟨b,h8,h9⟩:=dZ u (by simp) (by simpa using jk h5 1 u rfl);obtain ⟨c,mc,pz⟩:=dZ w (by simp) (by simpa using jk h5 2 w rfl);exact ⟨.if2 a b c,by simp [S.ok,h6,h8,mc],by rw [nf,S.tree,aS,aS,aS,h7,h9,pz];rfl⟩
   ·simp at ho;obtain ⟨L,I,h3,h4,h5⟩:=ho;subst I h3
    match l,h4 with
    | [t,u],_ =>
     obtain ⟨a,h6,h7⟩:=hex t (by simp) (by simpa using jk h5 0 t rfl);obtain ⟨b,h8,h9⟩:=dZ u (by simp) (by simpa using jk h5 1 u rfl);exact ⟨.while_ a b,by simp [S.ok,h6,h8],by rw [nf,S.tree,aS,aS,h7,h9];rfl⟩
   ·simp at ho;obtain ⟨L,I,h3,h4,h5⟩:=ho;subst I h3
    match l,h4 with
    | [t],_ =>
     obtain ⟨a,h6,h7⟩:=hex t (by simp) (by simpa using jk h5 0 t rfl);exact ⟨.ret a,by simp [S.ok,h6],by rw [nf,S.tree,aS,h7];rfl⟩
   ·simp at ho;obtain ⟨L,I,h3,h4,h5⟩:=ho;subst I h3
    match l,h4 with
    | [t],_ =>
     obtain ⟨a,h6,h7⟩:=hex t (by simp) (by simpa using jk h5 0 t rfl);exact ⟨.do_ a,by simp [S.ok,h6],by rw [nf,S.tree,aS,h7];rfl⟩
   ·simp at ho;obtain ⟨L,I,h3,h4,h5⟩:=ho;subst I
    match l,h4 with
    | [t],_ =>
     obtain ⟨a,h6,h7⟩:=hex t (by simp) (by simpa using jk h5 0 t rfl);exact ⟨.var s a,by simp [S.ok,h3,h6],by rw [nf,S.tree,aS,h7];rfl⟩
  ·simp only [T.n] at hk;subst hk;simp at ho;obtain ⟨L,I,h3,h4⟩:=ho;subst I h4
   obtain ⟨es,h5,h6⟩:=GP l fun t ht=>cz t ht (h3 t ht)
   exact ⟨es,h5,by rw [nf,bU,h6]⟩
theorem toB {t:T} (h:dv t=true) (hk:t.n.kind=14):∃ l:List S,S.db l=true/\er t=bU l:=(toS _ t (aD _) h).2 hk
mutual
def wt:T->Nat
 | .mk n l=>30+n.s.length+fj l
def fj:List T->Nat
 | []=>0
 | t::l=>wt t+fj l
end
mutual
theorem RE:∀ t:T,wt (er t)=wt t
 | .mk n l=>by rw [er,wt,wt,JG l]
theorem JG:∀ l:List T,fj (aS l)=fj l
 | []=>rfl
 | t::l=>by rw [aS,fj,fj,RE t,JG l]
end
theorem Ik:∀ (k n:Nat),n < 10 ^ (k+1)->(c6 n).length<=k+1:=by
 intro k
 induction k with
 | zero=>intro n h;unfold c6;rw [dif_pos aq];simp
 | succ k ih =>
  intro n h;unfold c6;split
  ·simp
  ·rw [aU];have:=ih (n / 10) (by rw [Nat.pow_succ] at h;omega);simp;omega
theorem tC (lv k:Nat) (x:ae):(qZ lv k x).length<=x.length+2:=by unfold qZ;split <;> simp
mutual
theorem E.len:∀ a:E,a.ok=true->a.bu.length+4<=wt a.tree/\a.full.length+4<=wt a.tree
 | .num n,h=>by
  simp only [E.ok,aH] at h;have L:=nw h.1;have I:=nw h.2;have:=Ik 9 n.toNat aq;rw [E.bu,E.full,E.tree,wt];simp only [length_nil,fj];omega
 | .name s,h=>by rw [E.bu,E.full,E.tree,wt];simp only [fj];omega
 | .at_ s a,h=>by
  simp only [E.ok,aH] at h;have:=E.len a h.2;rw [E.bu,E.full,E.tree,wt];simp only [fj,aU,length_cons,length_nil];omega
 | .call s l,h=>by
  simp only [E.ok,aH] at h;have:=E.lens l h.2;rw [E.bu,E.full,E.tree,wt];simp only [aU,length_cons,length_nil];omega
 | .un s a,h=>by
  simp only [E.ok,aH] at h;have:=E.len a h.2;have:=tC a.lv 9 a.bu;rw [E.bu,E.full,E.tree,wt];simp only [fj,aU,length_cons,length_nil];omega
 | .bin s a b,h=>by
  simp only [E.ok,aH] at h;have:=E.len a h.1.2;have:=E.len b h.2;have:=tC a.lv (ep s) a.bu;have:=tC b.lv (ep s+1) b.bu;rw [E.bu,E.full,E.tree,wt];simp only [fj,aU,length_cons,length_nil];omega
theorem E.lens:∀ l:List E,E.db l=true->(bQ (E.da l)).length<=fj (E.trees l)/\(bQ (E.th l)).length<=fj (E.trees l)
 | [],_=>⟨aM _,aM _⟩
 | a::l,h=>by
  simp only [E.db,aH] at h;have L:=E.len a h.1;have I:=E.lens l h.2;rw [E.da,E.th,E.trees,fj]
  have key:∀ (x:ae) (l:List ae),(bQ (x::l)).length<=x.length+2+(bQ l).length:=by
   intro x l
   cases l with
   | nil=>simp [bQ]
   | cons y l=>simp [bQ];omega
  have:=key a.bu (E.da l);have:=key a.full (E.th l);omega
end
mutual
theorem S.len (x:E->ae) (hx:∀ a:E,a.ok=true->(x a).length+4<=wt a.tree):∀ s:S,s.ok=true->(s.bu x).length+4<=wt s.tree
 | .set s a,h=>by
  simp only [S.ok,aH] at h;have:=hx a h.2;rw [S.bu,S.tree,wt];simp only [fj,aU,length_cons,length_nil];omega
 | .put s a b,h=>by
  simp only [S.ok,aH] at h;have:=hx a h.2.1;have:=hx b h.2.2;rw [S.bu,S.tree,wt];simp only [fj,aU,length_cons,length_nil];omega
 | .if1 c b,h=>by
  simp only [S.ok,aH] at h;have:=hx c h.1;have:=S.lens x hx b h.2 [123,32];rw [S.bu,S.tree,wt];simp only [fj,wt,aU,length_cons,length_nil] at *;omega
 | .if2 c b b2,h=>by
  simp only [S.ok,aH] at h;have:=hx c h.1;have:=S.lens x hx b h.2.1 [123,32];have:=S.lens x hx b2 h.2.2 [123,32];rw [S.bu,S.tree,wt];simp only [fj,wt,aU,length_cons,length_nil] at *;omega
 | .while_ c b,h=>by
  simp only [S.ok,aH] at h;have:=hx c h.1;have:=S.lens x hx b h.2 [123,32];rw [S.bu,S.tree,wt];simp only [fj,wt,aU,length_cons,length_nil] at *;omega
 | .ret a,h=>by
  simp only [S.ok] at h;have:=hx a h;rw [S.bu,S.tree,wt];simp only [fj,aU,length_cons,length_nil];omega
 | .do_ a,h=>by
  simp only [S.ok] at h;have:=hx a h;rw [S.bu,S.tree,wt];simp only [fj,aU,length_cons,length_nil];omega
 | .var s a,h=>by
  simp only [S.ok,aH] at h;have:=hx a h.2;rw [S.bu,S.tree,wt];simp only [fj,aU,length_cons,length_nil];omega
theorem S.lens (x:E->ae) (hx:∀ a:E,a.ok=true->(x a).length+4<=wt a.tree):∀ l:List S,S.db l=true->∀ acc:ae,(S.da x acc l).length<=acc.length+fj (S.trees l)
 | [],_,acc=>by rw [S.da];omega
 | a::l,h,acc=>by
  simp only [S.db,aH] at h;have L:=S.len x hx a h.1;have I:=S.lens x hx l h.2 ((acc++a.bu x)++[32]);rw [S.da,S.trees,fj];simp only [aU,length_cons,length_nil] at I;omega
end
theorem tB (x:E->ae) (hx:∀ a:E,a.ok=true->(x a).length+4<=wt a.tree) {l:List S} (h:S.db l=true):(fA x l).length<=wt (bU l):=by
 have:=S.lens x hx l h [123,32];unfold fA bU;rw [wt];simp only [aU,length_cons,length_nil] at *;omega
end Go.Xp
namespace Go.Im
open Go.Xp Go.Sp
def qQ (g:Nat->Option (T × Nat)):List Int->Nat->List T->Option (List T × Nat)
 | [],next,acc=>some (acc,next)
 | k::r,next,acc=>if k=(next:Int) then match g next with
  | none=>none
  | some (t,e)=>qQ g r e (acc++[t])
  else none
def pH (nodes:List Nd):Nat->Nat->Option (T × Nat)
 | 0,_=>none
 | f+1,a=>match nodes[a]? with
  | none=>none
  | some n=>match qQ (pH nodes f) n.kids (a+1) [] with
   | none=>none
   | some (l,e)=>if n.at_ < 0 then none else some (.mk n l,e)
def tr (nodes:List Nd) (a:Nat):Option (T × Nat):=pH nodes (nodes.length+1) a
theorem G4 {nodes:List Nd} {g:Nat->Option (T × Nat)} (hg:∀ a t e,g a=some (t,e)->a < e/\e<=nodes.length/\e=a+aQ t/\(nodes.take e).drop a=fS a t) :
  ∀ (ks:List Int) (next:Nat) (acc l:List T) (e:Nat),next<=nodes.length->qQ g ks next acc=some (l,e)->∃ l',l=acc++l'/\e=next+aB l'/\e<=nodes.length/\ks=bg next l'/\(nodes.take e).drop next=bO next l'
 | [],next,acc,l,e,hn,h=>by
  rw [qQ] at h;cases h;exact ⟨[],by simp,by simp [aB],hn,rfl,by rw [bO];exact gJ (by rw [iK,cS];omega)⟩
 | k::r,next,acc,l,e,hn,h=>by
  rw [qQ] at h;split at h
  ·rename_i hk
   cases hq:g next with
   | none=>rw [hq] at h;cases h
   | some x =>
    obtain ⟨t,e1⟩:=x;rw [hq] at h;simp only at h;obtain ⟨a1,a2,a3,a4⟩:=hg _ _ _ hq;obtain ⟨l',b1,b2,b3,b4,b5⟩:=G4 hg r e1 (acc++[t]) l e a2 h;refine ⟨t::l',by rw [b1];simp,by rw [aB];omega,b3,by rw [bg,<-a3,<-b4,hk],?_⟩;rw [bO,<-a3,<-a4,<-b5]
    have he:e1<=e:=by omega
    have L:(nodes.take e).take e1=nodes.take e1:=by rw [List.take_take,Nat.min_eq_left he]
    have I:(nodes.take e).drop next=((nodes.take e).take e1).drop next++(nodes.take e).drop e1:=by
     have h3:nodes.take e=(nodes.take e).take e1++(nodes.take e).drop e1:=(take_append_drop _ _).symm
     have h4:((nodes.take e).take e1).length=e1:=by rw [cS,cS];omega
     rw [h3,List.drop_append_of_le_length (by rw [h4];omega)];rw [<-h3]
    rw [I,L]
  ·cases h
theorem Ba {nodes:List Nd}:∀ (f a:Nat) (t:T) (e:Nat),pH nodes f a=some (t,e)->a < e/\e<=nodes.length/\e=a+aQ t/\(nodes.take e).drop a=fS a t
 | 0,a,t,e,h=>by cases h
 | f+1,a,t,e,h=>by
  rw [pH] at h
  cases hn:nodes[a]? with
  | none=>rw [hn] at h;cases h
  | some n =>
   rw [hn] at h;simp only at h;have ak:=(bp hn).1
   cases hk:qQ (pH nodes f) n.kids (a+1) [] with
   | none=>rw [hk] at h;cases h
   | some x =>
    obtain ⟨l,e1⟩:=x;rw [hk] at h;simp only at h;split at h
    ·cases h
    ·cases h;obtain ⟨l',b1,b2,b3,b4,b5⟩:=G4 (Ba f) n.kids (a+1) [] l e ak hk
     have:l'=l:=by rw [b1];rfl
     subst this;refine ⟨by omega,b3,by rw [aQ];omega,?_⟩;rw [fS,<-b4,<-b5]
     have L:(nodes.take e)[a]?=some n:=by rw [getElem?_take,ab aq];exact hn
     obtain ⟨I,h3⟩:=bp L;rw [kW I,h3]
def j0 (nodes:List Nd):List Fn->Nat->List T->Option (List T × Nat)
 | [],next,acc=>some (acc,next)
 | f::r,next,acc=>match tr nodes next with
  | none=>none
  | some (t,e)=>if f.body=(next:Int) then j0 nodes r e (acc++[t]) else none
def dn (k:Int) (n:Nat):Bool :=
 if k=1\/k=2 then ((n:Int)==0)
 else if k=4\/k=14 then true
 else if k=3\/k=5\/k=7\/k=11\/k=12\/k=13 then ((n:Int)==1)
 else if k=6\/k=8\/k=10 then ((n:Int)==2)
 else if k=9 then ((n:Int)==2) || ((n:Int)==3)
 else false
mutual
def gV:T->Bool
 | .mk n l=>dn n.kind l.length&&vy l
def vy:List T->Bool
 | []=>true
 | t::r=>gV t&&vy r
end
theorem yK (t:T):gV t=(dn t.n.kind t.kids.length&&vy t.kids):=by cases t;rw [gV];rfl
theorem uo (l:List T):vy l=l.all gV:=by
 induction l with
 | nil=>rfl
 | cons t l ih=>rw [vy,ih];rfl
mutual
def fy (nodes:List Nd):Nat->T->Prop
 | a,.mk n l=>nodes[a]?=some n/\n.kids=bg (a+1) l/\dC nodes (a+1) l
def dC (nodes:List Nd):Nat->List T->Prop
 | _,[]=>True
 | a,t::r=>fy nodes a t/\dC nodes (a+aQ t) r
end
mutual
def xY:T->Prop
 | .mk n l=>0<=n.at_/\nc l
def nc:List T->Prop
 | []=>True
 | t::r=>xY t/\nc r
end
theorem lr (t:T):1<=aQ t:=by rw [eA];omega
mutual
theorem fy.le {nodes:List Nd}:∀ (t:T) (a:Nat),fy nodes a t->a+aQ t<=nodes.length
 | .mk n l,a,h=>by
  rw [fy] at h;have L:=(bp h.1).1;have:=dC.le l (a+1) h.2.2 L;rw [aQ];omega
theorem dC.le {nodes:List Nd}:∀ (l:List T) (a:Nat),dC nodes a l->a<=nodes.length->a+aB l<=nodes.length
 | [],a,h,ha=>by rw [aB];exact ha
 | t::r,a,h,ha=>by
  rw [dC] at h;have L:=fy.le t a h.1;have:=dC.le r _ h.2 L;rw [aB];omega
end
theorem Ip {nodes:List Nd}:∀ (f:Nat),(∀ (a d:Nat) (e:Int),pe nodes f a d=some e->0<=e->∃ t,fy nodes a t/\e=((a+aQ t:Nat):Int)) /\
  (∀ (ks:List Int) (next d:Nat) (e:Int),om nodes f ks (next:Int) d=some e->0<=e->∃ l,dC nodes next l/\ks=bg next l/\e=((next+aB l:Nat):Int)):=by
 intro f
 induction f with
 | zero =>
  refine ⟨fun a d e h _=>by simp [pe] at h,fun ks next d e h _=>?_⟩
  cases ks with
  | nil=>rw [om] at h;cases h;exact ⟨[],trivial,rfl,by simp [aB]⟩
  | cons k r=>simp [om] at h
 | succ f ih =>
  refine ⟨fun a d e h he=>?_,fun ks next d e h he=>?_⟩
  ·rw [pe] at h;split at h
   ·cases h;omega
   ·cases hn:nodes[a]? with
    | none=>rw [hn] at h;cases h
    | some n =>
     rw [hn] at h;simp only at h;rw [show ((a:Int)+1)=((a+1:Nat):Int) by omega] at h;obtain ⟨l,L,I,h3⟩:=ih.2 _ _ _ _ h he;exact ⟨.mk n l,by rw [fy];exact ⟨hn,I,L⟩,by rw [h3,aQ];omega⟩
  ·cases ks with
   | nil=>rw [om] at h;cases h;exact ⟨[],trivial,rfl,by simp [aB]⟩
   | cons k r =>
    rw [om] at h;split at h
    ·rename_i hk;subst hk;rw [qU] at h
     cases hq:pe nodes f next (d+1) with
     | none=>rw [hq] at h;cases h
     | some e1 =>
      rw [hq] at h;simp only at h;split at h
      ·cases h;omega
      ·rename_i h0;obtain ⟨t,L,I⟩:=ih.1 _ _ _ hq aq;subst I;obtain ⟨l,h3,h4,h5⟩:=ih.2 _ _ _ _ h he;refine ⟨t::l,by rw [dC];exact ⟨L,h3⟩,by rw [bg,<-h4],by rw [h5,aB];omega⟩
    ·cases h;omega
theorem wB {nodes:List Nd}:∀ (f:Nat),(∀ (t:T) (a:Nat),fy nodes a t->2 * aQ t<=f->sub nodes f a=some t) /\
  (∀ (l:List T) (a:Nat) (acc:List T),dC nodes a l->2 * aB l+1<=f->ph nodes f (bg a l) acc=some (acc++l)):=by
 intro f
 induction f with
 | zero =>
  exact ⟨fun t a _ h=>by have:=lr t;omega,fun l a acc _ h=>by omega⟩
 | succ f ih =>
  refine ⟨fun t a hs h=>?_,fun l a acc hs h=>?_⟩
  ·obtain ⟨n,l⟩:=t;rw [fy] at hs;rw [aQ] at h;rw [sub,hs.1];simp only;rw [hs.2.1,ih.2 l (a+1) [] hs.2.2 aq];rfl
  ·cases l with
   | nil=>rw [bg,ph];simp
   | cons t l =>
    rw [dC] at hs;rw [aB] at h;have:=lr t;rw [bg,ph,M aq,qU,ih.1 t a hs.1 aq];simp only;rw [ih.2 l _ _ hs.2 aq];simp
theorem N4 {nodes:List Nd}:∀ (f:Nat) (t:T) (a:Nat),fy nodes a t->xY t->aQ t<=f->pH nodes f a=some (t,a+aQ t):=by
 intro f
 induction f with
 | zero=>intro t a _ _ h;have:=lr t;omega
 | succ f ih =>
  intro t a hs ha h;obtain ⟨n,l⟩:=t
  have key:∀ (l:List T) (a:Nat) (acc:List T),dC nodes a l->nc l->aB l<=f->qQ (pH nodes f) (bg a l) a acc=some (acc++l,a+aB l):=by
   intro l
   induction l with
   | nil=>intro a acc _ _ _;rw [bg,qQ,aB];simp
   | cons t l ih2 =>
    intro a acc hs ha h;rw [dC] at hs;rw [nc] at ha;rw [aB] at h;rw [bg,qQ,ab rfl,ih t a hs.1 ha.1 aq];simp only;rw [ih2 _ _ hs.2 ha.2 aq,aB];simp [fP]
  rw [fy] at hs;rw [xY] at ha;rw [aQ] at h;rw [pH,hs.1];simp only;rw [hs.2.1,key l (a+1) [] hs.2.2 ha.2 aq];simp only;rw [M aq,aQ];simp only [nil_append,Option.some.injEq,Prod.mk.injEq,true_and];omega
theorem Vx {nodes:List Nd}:∀ (f:Nat) (t:T) (a e:Nat),pH nodes f a=some (t,e)->fy nodes a t/\e=a+aQ t/\xY t:=by
 intro f
 induction f with
 | zero=>intro t a e h;cases h
 | succ f ih =>
  intro t a e h
  have key:∀ (ks:List Int) (next:Nat) (acc l:List T) (e:Nat),qQ (pH nodes f) ks next acc=some (l,e)->∃ l',l=acc++l'/\dC nodes next l'/\ks=bg next l'/\e=next+aB l'/\nc l':=by
   intro ks
   induction ks with
   | nil=>intro next acc l e h;rw [qQ] at h;cases h;exact ⟨[],by simp,trivial,rfl,by simp [aB],trivial⟩
   | cons k r ih2 =>
    intro next acc l e h
    rw [qQ] at h;split at h
    ·rename_i hk
     cases hq:pH nodes f next with
     | none=>rw [hq] at h;cases h
     | some x =>
      obtain ⟨t,e1⟩:=x;rw [hq] at h;simp only at h;obtain ⟨a1,a2,a3⟩:=ih _ _ _ hq;subst a2;obtain ⟨l',b1,b2,b3,b4,b5⟩:=ih2 _ _ _ _ h;exact ⟨t::l',by rw [b1];simp,by rw [dC];exact ⟨a1,b2⟩,by rw [bg,hk,b3],by rw [b4,aB];omega,by rw [nc];exact ⟨a3,b5⟩⟩
    ·cases h
  rw [pH] at h
  cases hn:nodes[a]? with
  | none=>rw [hn] at h;cases h
  | some n =>
   rw [hn] at h;simp only at h
   cases hk:qQ (pH nodes f) n.kids (a+1) [] with
   | none=>rw [hk] at h;cases h
   | some x =>
    obtain ⟨l,e1⟩:=x;rw [hk] at h;simp only at h;split at h
    ·cases h
    ·rename_i h0;cases h;obtain ⟨l',b1,b2,b3,b4,b5⟩:=key _ _ _ _ _ hk
     have:l'=l:=by rw [b1];rfl
     subst this;exact ⟨by rw [fy];exact ⟨hn,b3,b2⟩,by rw [b4,aQ];omega,by rw [xY];exact ⟨by omega,b5⟩⟩
theorem R3 {nodes:List Nd} (hl:nodes.length<=800):∀ (f:Nat),(∀ (t:T) (a d:Nat),fy nodes a t->d<=a->2 * aQ t<=f->pe nodes f a d=some ((a+aQ t:Nat):Int)) /\
  (∀ (l:List T) (a d:Nat),dC nodes a l->d < a->2 * aB l+1<=f->om nodes f (bg a l) (a:Int) d=some ((a+aB l:Nat):Int)):=by
 intro f
 induction f with
 | zero =>
  exact ⟨fun t a d _ _ h=>by have:=lr t;omega,fun l a d _ _ h=>by omega⟩
 | succ f ih =>
  refine ⟨fun t a d hs hd h=>?_,fun l a d hs hd h=>?_⟩
  ·obtain ⟨n,l⟩:=t;rw [fy] at hs;rw [aQ] at h |-;have ak:=(bp hs.1).1;rw [pe,M aq,hs.1];simp only;rw [show ((a:Int)+1)=((a+1:Nat):Int) by omega,hs.2.1,ih.2 l (a+1) d hs.2.2 aq aq]
   congr 1;omega
  ·cases l with
   | nil=>rw [bg,om,aB];simp
   | cons t l =>
    rw [dC] at hs;rw [aB] at h |-;have:=lr t;rw [bg,om,ab rfl,qU,ih.1 t a (d+1) hs.1 aq aq];simp only;rw [M aq,ih.2 l _ d hs.2 aq aq]
    congr 1;omega
theorem LY {nodes:List Nd}:∀ (f:Nat),(∀ (a d:Nat),2 * (nodes.length - a)+1<=f->∃ e,pe nodes f a d=some e/\(0<=e->(a:Int) < e/\a < nodes.length)) /\
  (∀ (ks:List Int) (next d:Nat),2 * (nodes.length - next)+2<=f->∃ e,om nodes f ks (next:Int) d=some e/\(0<=e->(next:Int)<=e)):=by
 intro f
 induction f with
 | zero=>exact ⟨fun a d h=>by omega,fun ks next d h=>by omega⟩
 | succ f ih =>
  refine ⟨fun a d h=>?_,fun ks next d h=>?_⟩
  ·rw [pe];split
   ·exact ⟨-1,rfl,fun h=>by omega⟩
   ·rename_i hc
    cases hn:nodes[a]? with
    | none=>rw [List.getElem?_eq_none_iff] at hn;omega
    | some n =>
     simp only;rw [show ((a:Int)+1)=((a+1:Nat):Int) by omega];obtain ⟨e,L,I⟩:=ih.2 n.kids (a+1) d aq;exact ⟨e,L,fun h=>⟨by have:=I h;omega,by omega⟩⟩
  ·cases ks with
   | nil=>rw [om];exact ⟨_,rfl,fun _=>Int.le_refl _⟩
   | cons k r =>
    rw [om];split
    ·rename_i hk;subst hk;rw [qU]
     obtain ⟨e,L,I⟩:=ih.1 next (d+1) aq
     rw [L];simp only;split
     ·exact ⟨-1,rfl,fun h=>by omega⟩
     ·rename_i h0;have h3:=I aq;obtain ⟨m,rfl⟩:∃ m:Nat,e=(m:Int):=⟨e.toNat,by omega⟩;obtain ⟨e',h4,h5⟩:=ih.2 r m d aq;exact ⟨e',h4,fun h=>by have:=h5 h;omega⟩
    ·exact ⟨-1,rfl,fun h=>by omega⟩
def eT (Q:Fn->T->Prop):List Fn->Nat->List T->Prop
 | [],_,[]=>True
 | f::r,a,t::l=>f.body=(a:Int)/\Q f t/\eT Q r (a+aQ t) l
 | _,_,_=>False
theorem eT.len {Q:Fn->T->Prop}:∀ {fns:List Fn} {a:Nat} {l:List T},eT Q fns a l->fns.length=l.length
 | [],_,[],_=>rfl
 | f::r,a,t::l,h=>by rw [eT] at h;rw [length_cons,length_cons,eT.len h.2.2]
 | [],_,t::l,h=>by cases h
 | f::r,_,[],h=>by cases h
theorem eT.mono {Q R:Fn->T->Prop}:∀ {fns:List Fn} {a:Nat} {l:List T},eT Q fns a l->(∀ f t,f∈fns->t∈l->Q f t->R f t)->eT R fns a l
 | [],_,[],_,_=>trivial
 | f::r,a,t::l,h,hq=>by
  rw [eT] at h |-;exact ⟨h.1,hq _ _ mem_cons_self mem_cons_self h.2.1,eT.mono h.2.2 fun f t hf ht=>hq f t (di _ hf) (di _ ht)⟩
 | [],_,t::l,h,_=>by cases h
 | f::r,_,[],h,_=>by cases h
theorem eT.at_ {Q:Fn->T->Prop}:∀ {fns:List Fn} {a:Nat} {l:List T},eT Q fns a l->∀ (i:Nat) f t,fns[i]?=some f->l[i]?=some t->f.body=((a+aB (l.take i):Nat):Int)/\Q f t
 | [],_,[],_,i,f,t,L,I=>by simp at L
 | f::r,a,t::l,h,i,f',t',L,I=>by
  rw [eT] at h
  cases i with
  | zero=>cases L;cases I;rw [take_zero,aB];exact ⟨h.1,h.2.1⟩
  | succ i =>
   obtain ⟨k1,k2⟩:=eT.at_ h.2.2 i f' t' (by simpa using L) (by simpa using I);exact ⟨by rw [k1,take_succ_cons,aB];omega,k2⟩
 | [],_,t::l,h,_,_,_,_,_=>by cases h
 | f::r,_,[],h,_,_,_,_,_=>by cases h
structure Oz (f:Fn) (t:T):Prop where
 name:bt f.name=true
 params:cQ f.params=true
 kind:t.n.kind=14
 all:dv t=true
theorem zV {nodes:List Nd}:∀ (fns:List Fn) (next:Nat) (e:Int),gM nodes fns (next:Int)=some (some e)->∃ l,dC nodes next l/\eT Oz fns next l/\e=((next+aB l:Nat):Int)
 | [],next,e,h=>by rw [gM] at h;cases h;exact ⟨[],trivial,trivial,by simp [aB]⟩
 | f::r,next,e,h=>by
  rw [gM,qU] at h
  cases hn:pe nodes (fN nodes) next 0 with
  | none=>rw [hn] at h;cases h
  | some e1 =>
   rw [hn] at h;simp only at h;split at h
   ·cases h
   ·rename_i hc;split at h
    ·cases h
    ·rename_i hp;obtain ⟨t,L,I⟩:=(Ip _).1 _ _ _ hn aq;have hle:=fy.le t _ L;rw [(wB _).1 t next L (by unfold fN;omega)] at h;simp only at h;split at h
     ·cases h
     ·rename_i hk;subst I;obtain ⟨l,k1,k2,k3⟩:=zV r _ e h;refine ⟨t::l,by rw [dC];exact ⟨L,k1⟩,?_,by rw [k3,aB];omega⟩;rw [eT];refine ⟨by omega,⟨?_,?_,?_,?_⟩,k2⟩
      ·cases hq:bt f.name with
       | true=>rfl
       | false=>exact absurd (.inr (.inl hq)) hc
      ·simpa using hp
      ·exact Decidable.byContradiction fun hq=>hk (.inl hq)
      ·cases hq:dv t with
       | true=>rfl
       | false=>exact absurd (.inr hq) hk
theorem zU {nodes:List Nd} (hl:nodes.length<=800):∀ (fns:List Fn) (next:Nat) (l:List T),dC nodes next l->eT Oz fns next l->gM nodes fns (next:Int)=some (some ((next+aB l:Nat):Int))
 | [],next,[],_,_=>by rw [gM,aB];rfl
 | f::r,next,t::l,h,hf=>by
  rw [dC] at h;rw [eT] at hf;have hle:=fy.le t _ h.1;rw [gM,qU,(R3 hl _).1 t next 0 h.1 (aM _) (by unfold fN;omega)];simp only;rw [M (by rw [hf.2.1.name];rintro (h | h | h);exact h hf.1;cases h;omega),M (by rw [hf.2.1.params];decide),(wB _).1 t next h.1 (by unfold fN;omega)];simp only;rw [M (by rw [hf.2.1.all];rintro (h | h);exact h hf.2.1.kind;cases h),zU hl r _ l h.2 hf.2.2,aB]
  congr 2;omega
 | [],_,t::l,_,h=>by cases h
 | f::r,_,[],_,h=>by cases h
theorem xF {nodes:List Nd}:∀ (fns:List Fn) (next:Nat),∃ r,gM nodes fns (next:Int)=some r
 | [],next=>⟨_,by rw [gM]⟩
 | f::r,next=>by
  obtain ⟨e,L,I⟩:=(LY (nodes:=nodes) (fN nodes)).1 next 0 (by unfold fN;omega)
  rw [gM,qU,L];simp only;split
  ·exact ⟨_,rfl⟩
  ·rename_i hc;split
   ·exact ⟨_,rfl⟩
   ·obtain ⟨t,k1,k2⟩:=(Ip _).1 _ _ _ L aq;have hle:=fy.le t _ k1;rw [(wB _).1 t next k1 (by unfold fN;omega)];simp only;split
    ·exact ⟨_,rfl⟩
    ·rw [k2];exact xF r _
theorem Lc (p:Src):∃ b,oV p=some b:=by
 unfold oV;split
 ·exact ⟨_,rfl⟩
 ·split
  ·exact ⟨_,rfl⟩
  ·obtain ⟨r,h⟩:=xF (nodes:=p.nodes) p.fns 0;rw [show ((0:Nat):Int)=0 from rfl] at h;rw [h]
   cases r <;> exact ⟨_,rfl⟩
structure dU (p:Src) (l:List T):Prop where
 globals:cQ p.globals=true
 arrays:p.arrays.all pd=true
 st:dC p.nodes 0 l
 fns:eT Oz p.fns 0 l
 len:aB l=p.nodes.length
 few:p.nodes.length<=800
theorem SZ {p:Src} (h:oV p=some true):∃ l,dU p l:=by
 unfold oV at h;split at h
 ·cases h
 ·rename_i L;split at h
  ·cases h
  ·rename_i I;rw [show (0:Int)=((0:Nat):Int) from rfl] at h
   cases hf:gM p.nodes p.fns ((0:Nat):Int) with
   | none=>rw [hf] at h;cases h
   | some r =>
    rw [hf] at h
    cases r with
    | none=>cases h
    | some e =>
     obtain ⟨l,k1,k2,k3⟩:=zV _ _ _ hf;simp only [Option.some.injEq,aH,beq_iff_eq,decide_eq_true_eq] at h;exact ⟨l,by simpa using L,by simpa using I,k1,k2,by omega,by omega⟩
theorem dU.oV {p:Src} {l:List T} (h:dU p l):oV p=some true:=by
 unfold Go.Sp.oV;rw [M (by rw [h.globals];decide),M (by rw [h.arrays];decide),show (0:Int)=((0:Nat):Int) from rfl,zU h.few _ _ _ h.st h.fns];simp only [Option.some.injEq,aH,beq_iff_eq,decide_eq_true_eq];have:=h.len;have:=h.few;omega
theorem CD {nodes:List Nd}:∀ (fns:List Fn) (next:Nat) (acc l:List T) (e:Nat),j0 nodes fns next acc=some (l,e)->∃ l',l=acc++l'/\dC nodes next l'/\eT (fun _ _=>True) fns next l'/\e=next+aB l'/\nc l'
 | [],next,acc,l,e,h=>by rw [j0] at h;cases h;exact ⟨[],by simp,trivial,trivial,by simp [aB],trivial⟩
 | f::r,next,acc,l,e,h=>by
  rw [j0] at h
  cases hq:tr nodes next with
  | none=>rw [hq] at h;cases h
  | some x =>
   obtain ⟨t,e1⟩:=x;rw [hq] at h;simp only at h;split at h
   ·rename_i hb;obtain ⟨a1,a2,a3⟩:=Vx _ _ _ _ hq;subst a2;obtain ⟨l',b1,b2,b3,b4,b5⟩:=CD r _ _ _ _ h;exact ⟨t::l',by rw [b1];simp,by rw [dC];exact ⟨a1,b2⟩,by rw [eT];exact ⟨hb,trivial,b3⟩,by rw [b4,aB];omega,by rw [nc];exact ⟨a3,b5⟩⟩
   ·cases h
theorem Ie {nodes:List Nd} {Q:Fn->T->Prop}:∀ (fns:List Fn) (next:Nat) (acc l:List T),dC nodes next l->eT Q fns next l->nc l->j0 nodes fns next acc=some (acc++l,next+aB l)
 | [],next,acc,[],_,_,_=>by rw [j0,aB];simp
 | f::r,next,acc,t::l,h,hf,ha=>by
  rw [dC] at h;rw [eT] at hf;rw [nc] at ha;have hle:=fy.le t _ h.1;rw [j0,tr,N4 _ t next h.1 ha.1 aq];simp only;rw [ab hf.1,Ie r _ _ l h.2 hf.2.2 ha.2,aB];simp [fP]
 | [],_,_,t::l,_,h,_=>by cases h
 | f::r,_,_,[],_,h,_=>by cases h
mutual
theorem fy.fl {nodes:List Nd}:∀ (t:T) (a:Nat),fy nodes a t->(nodes.take (a+aQ t)).drop a=fS a t
 | .mk n l,a,h=>by
  have hle:=fy.le _ _ h;rw [fy] at h;rw [aQ] at hle;have L:=dC.fl l (a+1) h.2.2 (by have:=(bp h.1).1;omega);rw [fS,<-h.2.1,<-L,aQ,show a+(aB l+1)=a+1+aB l by omega]
  have I:(nodes.take (a+1+aB l))[a]?=some n:=by rw [getElem?_take,ab aq];exact h.1
  obtain ⟨h3,h4⟩:=bp I;rw [kW h3,h4]
theorem dC.fl {nodes:List Nd}:∀ (l:List T) (a:Nat),dC nodes a l->a<=nodes.length->(nodes.take (a+aB l)).drop a=bO a l
 | [],a,h,ha=>by
  rw [bO];exact gJ (by rw [aB,iK,cS];omega)
 | t::r,a,h,ha=>by
  rw [dC] at h;have hle:=fy.le _ _ h.1;have L:=fy.fl t a h.1;have I:=dC.fl r (a+aQ t) h.2 hle;have AK:=dC.le r _ h.2 hle;rw [bO,<-L,<-I,aB,show a+(aQ t+aB r)=a+aQ t+aB r by omega]
  have h3:nodes.take (a+aQ t)=(nodes.take (a+aQ t+aB r)).take (a+aQ t):=by rw [List.take_take,Nat.min_eq_left aq]
  rw [h3];generalize hm:nodes.take (a+aQ t+aB r)=m
  have eR:m.length=a+aQ t+aB r:=by rw [<-hm,cS];omega
  rw [<-List.drop_append_of_le_length (by rw [cS];omega),take_append_drop]
end
theorem dC.all {nodes:List Nd} {l:List T} (h:dC nodes 0 l) (hl:aB l=nodes.length):nodes=bO 0 l:=by
 have:=dC.fl l 0 h (aM _);rw [cL,hl,b7,List.drop_zero] at this;exact this
def oP (n:Int):ae:=if n < 0 then 45::c6 n.natAbs else c6 n.toNat
def sA (s:ae):Int:=match levels.findIdx? (fun l=>l.contains s) with | some i=>(i:Int) | none => -1
def uQ (b:Bool) (x:ae):ae:=if b=true then (40::x)++[41] else x
def mj (t:T) (least:Int):Bool:=(t.n.kind==6)&&decide (sA t.n.s < least)
def uF (n:Nd) (l:List T) (x:List ae):ae :=
 if n.kind=1 then oP n.n
 else if n.kind=3 then ((n.s++[91])++x.getD 0 [])++[93]
 else if n.kind=4 then ((n.s++[40])++bQ x)++[41]
 else if n.kind=5 then (n.s++[32])++(match l with | a::_=>uQ (a.n.kind==6) (x.getD 0 []) | []=>[])
 else if n.kind=6 then (match l with
  | a::b::_=>(((uQ (mj a (sA n.s)) (x.getD 0 [])++[32])++n.s)++[32])++uQ (mj b (sA n.s+1)) (x.getD 1 [])
  | _=>[])
 else n.s
mutual
def de:T->ae
 | .mk n l=>uF n l (gi l)
def gi:List T->List ae
 | []=>[]
 | t::r=>de t::gi r
end
theorem NY (t:T):de t=uF t.n t.kids (gi t.kids):=by cases t;rw [de];rfl
theorem Dj (l:List T):gi l=l.map de:=by
 induction l with
 | nil=>rfl
 | cons t l ih=>rw [gi,ih];rfl
mutual
def kR:T->Nat
 | .mk n l=>n.s.length+60+gH l
def gH:List T->Nat
 | []=>0
 | t::r=>kR t+gH r
end
theorem pK (t:T):kR t=t.n.s.length+60+gH t.kids:=by cases t;rw [kR];rfl
theorem uJ {l:List T} {t:T} (h:t∈l):kR t<=gH l:=by
 induction l with
 | nil=>cases h
 | cons a l ih =>
  rw [gH]
  rcases dA h with rfl | h
  ·omega
  ·have:=ih h;omega
theorem PH (l:List T):l.length * 60<=gH l:=by
 induction l with
 | nil=>simp
 | cons t l ih=>rw [gH,pK,length_cons];omega
theorem Dy {n:Nat} (h:n < 100000000000000000000):(c6 n).length<=20:=Ik 19 n (by simpa using h)
theorem yJ {n:Int} (h : -9223372036854775808<=n/\n<=9223372036854775807):(oP n).length<=21:=by
 unfold oP;split
 ·have:=Dy (n:=n.natAbs) aq;simp only [length_cons];omega
 ·have:=Dy (n:=n.toNat) aq;omega
theorem zc (b:Bool) (x:ae):(uQ b x).length<=x.length+2:=by
 unfold uQ;split <;> simp
theorem Ff:∀ (r:List ae),(r.flatMap fun y=>44::32::y).length=(r.map fun y=>y.length+2).sum
 | []=>rfl
 | z::r=>by
  have:=Ff r;simp only [flatMap_cons,aU,List.map_cons,sum_cons,length_cons] at this |-;omega
theorem AU:∀ (x:List ae),(bQ x).length<=(x.map fun y=>y.length+2).sum
 | []=>by simp [bQ]
 | y::r=>by
  have h:=Ff r;rw [List.map_cons,sum_cons,bQ,aU,h];omega
mutual
def qI:T->Prop
 | .mk n l=>(-9223372036854775808<=n.n/\n.n<=9223372036854775807)/\qJ l
def qJ:List T->Prop
 | []=>True
 | t::r=>qI t/\qJ r
end
theorem rM (t:T):qI t↔(-9223372036854775808<=t.n.n/\t.n.n<=9223372036854775807)/\qJ t.kids:=by cases t;rw [qI];exact Iff.rfl
theorem ky {l:List T} {t:T} (h:qJ l) (ht:t∈l):qI t:=by
 induction l with
 | nil=>cases ht
 | cons a l ih =>
  rw [qJ] at h
  rcases dA ht with rfl | ht
  ·exact h.1
  ·exact ih h.2 ht
theorem wE:∀ (N:Nat) (t:T),aQ t<=N->qI t->(de t).length+4<=kR t:=by
 intro N
 induction N with
 | zero=>intro t h;rw [eA] at h;omega
 | succ N ih =>
  intro t hN hn;rw [eA] at hN;rw [rM] at hn
  have hk:∀ a∈t.kids,(de a).length+4<=kR a:=fun a ha=>by
   refine ih a ?_ (ky hn.2 ha)
   have:∀ (l:List T),a∈l->aQ a<=aB l:=by
    intro l
    induction l with
    | nil=>intro h;cases h
    | cons b l ih2 =>
     intro h;rw [aB]
     rcases dA h with rfl | h
     ·omega
     ·have:=ih2 h;omega
   have:=this _ ha;omega
  have aaC:((gi t.kids).map fun y=>y.length+2).sum<=gH t.kids:=by
   have:∀ (l:List T),(∀ a∈l,(de a).length+4<=kR a)->((gi l).map fun y=>y.length+2).sum<=gH l:=by
    intro l
    induction l with
    | nil=>intro _;simp [gi]
    | cons a l ih2 =>
     intro h;have L:=h a (mem_cons_self)
     have I:=ih2 fun b hb=>h b (di _ hb)
     rw [gi,gH,List.map_cons,sum_cons];omega
   exact this _ hk
  have h0:((gi t.kids).getD 0 []).length<=gH t.kids:=by
   cases hl:t.kids with
   | nil=>simp [gi]
   | cons a r =>
    have:=hk a (by rw [hl];exact mem_cons_self);rw [gi,gH];simp;omega
  have h01:∀ a b r,t.kids=a::b::r->((gi t.kids).getD 0 []).length+((gi t.kids).getD 1 []).length+8<=gH t.kids:=fun a b r hl=>by
   have L:=hk a (by rw [hl];exact mem_cons_self);have I:=hk b (by rw [hl];exact di _ mem_cons_self);rw [hl,gi,gi,gH,gH];simp;omega
  rw [NY,pK];unfold uF;split
  ·have:=yJ hn.1;omega
  ·split
   ·simp only [aU,length_cons,length_nil];omega
   ·split
    ·have:=AU (gi t.kids);simp only [aU,length_cons,length_nil];omega
    ·split
     ·cases hl:t.kids with
      | nil=>simp <;> omega
      | cons a r =>
       simp only [aU,length_cons,length_nil];have:=zc (a.n.kind==6) ((gi (a::r)).getD 0 []);rw [hl] at h0;omega
     ·split
      ·match hl:t.kids with
       | []=>simp <;> omega
       | [a]=>simp <;> omega
       | a::b::r =>
        have L:=h01 a b r hl;rw [hl] at L;have I:=zc (mj a (sA t.n.s)) ((gi (a::b::r)).getD 0 []);have h3:=zc (mj b (sA t.n.s+1)) ((gi (a::b::r)).getD 1 []);simp only [aU,length_cons,length_nil];omega
      ·omega
def xR (own:ae) (n:Nd) (k:Nat) (x b:List ae):ae :=
 if n.kind=13 then ((([118,97,114,32]++n.s)++[32,61,32])++x.getD 0 [])++[59]
 else if n.kind=7 then ((n.s++[32,61,32])++x.getD 0 [])++[59]
 else if n.kind=8 then ((((n.s++[91])++x.getD 0 [])++[93,32,61,32])++x.getD 1 [])++[59]
 else if n.kind=9 then (if k=3 then ((([105,102,32,40]++x.getD 0 [])++[41,32])++b.getD 1 [])++([32,101,108,115,101,32]++b.getD 2 []) else (([105,102,32,40]++x.getD 0 [])++[41,32])++b.getD 1 [])
 else if n.kind=10 then (([119,104,105,108,101,32,40]++x.getD 0 [])++[41,32])++b.getD 1 []
 else if n.kind=11 then ([114,101,116,117,114,110,32]++x.getD 0 [])++[59]
 else if n.kind=12 then x.getD 0 []++[59]
 else own
section
variable (tx:T->ae) (inl:List ae->Nat->ae)
mutual
def kP:Nat->T->ae
 | d,.mk n l=>xR (tx (.mk n l)) n l.length (l.map tx) (qs d l)
def qs:Nat->List T->List ae
 | _,[]=>[]
 | d,t::r=>nY d t::qs d r
def nY:Nat->T->ae
 | d,.mk n l=>inl (xQ (d+1) l) d
def xQ:Nat->List T->List ae
 | _,[]=>[]
 | d,t::r=>kP d t::xQ d r
end
end
theorem NS (tx:T->ae) (inl:List ae->Nat->ae) (d:Nat) (t:T):kP tx inl d t=xR (tx t) t.n t.kids.length (t.kids.map tx) (qs tx inl d t.kids):=by cases t;rw [kP];rfl
theorem LI (tx:T->ae) (inl:List ae->Nat->ae) (d:Nat) (t:T):nY tx inl d t=inl (xQ tx inl (d+1) t.kids) d:=by cases t;rw [nY];rfl
theorem Ic (tx:T->ae) (inl:List ae->Nat->ae) (d:Nat) (l:List T):qs tx inl d l=l.map (nY tx inl d):=by
 induction l with
 | nil=>rfl
 | cons t l ih=>rw [qs,ih];rfl
theorem Jt (tx:T->ae) (inl:List ae->Nat->ae) (d:Nat) (l:List T):xQ tx inl d l=l.map (kP tx inl d):=by
 induction l with
 | nil=>rfl
 | cons t l ih=>rw [xQ,ih];rfl
def sM (acc:ae) (l:List ae):ae:=l.foldl (fun acc s=>acc++(s++[32])) acc
def fV (l:List ae) (d:Nat):ae:=sM [123,32] l++[125]
def lj:List ae->Nat
 | []=>0
 | s::l=>s.length+1+lj l
theorem tW (l:List ae):∀ acc,(sM acc l).length=acc.length+lj l:=by
 induction l with
 | nil=>intro acc;simp [sM,lj]
 | cons s l ih =>
  intro acc;have:=ih (acc++(s++[32]));simp only [sM,foldl_cons,lj,aU,length_cons,length_nil] at this |-;omega
theorem GZ (a b:List ae):lj (a++b)=lj a+lj b:=by
 induction a with
 | nil=>simp [lj]
 | cons s a ih=>simp only [cons_append,lj,ih];omega
theorem NU (l:List ae) (k:Nat):lj (l.take k)<=lj l:=by
 have:lj l=lj (l.take k)+lj (l.drop k):=by rw [<-GZ,take_append_drop]
 omega
theorem LN (acc:ae) (l:List ae) (s:ae):sM acc (l++[s])=sM acc l++(s++[32]):=by simp [sM]
theorem S3 {l:List ae} {s:ae} (h:s∈l):s.length<=lj l:=by
 induction l with
 | nil=>cases h
 | cons a l ih =>
  rw [lj]
  rcases dA h with rfl | h
  ·omega
  ·have:=ih h;omega
theorem Pn {l:List ae} {d:Nat} {s:ae} (h:s∈l):s.length<=(fV l d).length:=by
 have L:=S3 h;have I:=tW l [123,32];unfold fV;rw [aU,I];omega
def g1 (s:ae):ae:=([105,110,116,32]++s)++[59,10]
def a1 (a:Ar):ae:=((([105,110,116,32]++a.name)++[91])++oP a.size)++[93,59,10]
def cX (tx:T->ae) (inl:List ae->Nat->ae) (x:Fn × T):ae:=((((([102,117,110,99,32]++x.1.name)++[40])++bQ x.1.params)++[41,32])++nY tx inl 0 x.2)++[10]
def dG {α:Type} (f:α->ae):ae->List α->ae
 | acc,[]=>acc
 | acc,x::l=>dG f (acc++f x) l
theorem x5 {α:Type} (f:α->ae) (l:List α) (x:α):∀ acc,dG f acc (l++[x])=dG f acc l++f x:=by
 induction l with
 | nil=>intro acc;rfl
 | cons y l ih=>intro acc;simp only [cons_append,dG];exact ih _
theorem OK {α:Type} (f:α->ae) (l k:List α):∀ acc,dG f acc (l++k)=dG f (dG f acc l) k:=by
 induction l with
 | nil=>intro acc;rfl
 | cons y l ih=>intro acc;simp only [cons_append,dG];exact ih _
theorem CF {α:Type} (f:α->ae) (l:List α):∀ acc,acc.length<=(dG f acc l).length:=by
 induction l with
 | nil=>intro acc;exact aD _
 | cons y l ih=>intro acc;have:=ih (acc++f y);rw [dG];rw [aU] at this;omega
theorem x6 {α:Type} (f:α->ae) (l:List α) (k:Nat) (acc:ae):(dG f acc (l.take k)).length<=(dG f acc l).length:=by
 have:dG f acc l=dG f (dG f acc (l.take k)) (l.drop k):=by rw [<-OK,take_append_drop]
 rw [this];exact CF f _ _
def nR (tx:T->ae) (inl:List ae->Nat->ae) (p:Src) (trees:List T):ae:=dG (cX tx inl) (dG a1 (dG g1 [] p.globals) p.arrays) (p.fns.zip trees)
end Go.Im
namespace Go.Im
def fH {α:Type} (p:α->α->Bool):List α->List α->Bool
 | [],[]=>true
 | a::r,b::s=>p a b&&fH p r s
 | _,_=>false
theorem zg {α:Type} {p:α->α->Bool}:∀ {a b:List α},fH p a b=true->a.length=b.length
 | [],[],_=>rfl
 | a::r,b::s,h=>by rw [fH,aH] at h;rw [length_cons,length_cons,zg h.2]
 | [],b::s,h=>by cases h
 | a::r,[],h=>by cases h
theorem si {α:Type} {p:α->α->Bool} {a b:List α} (h:a.length≠b.length):fH p a b=false:=by
 cases hc:fH p a b with
 | false=>rfl
 | true=>exact absurd (zg hc) h
theorem E8 {α:Type} {p:α->α->Bool}:∀ {a b:List α} {k:Nat} {x y:α},a[k]?=some x->b[k]?=some y->fH p a b=true->p x y=true
 | a::r,b::s,0,x,y,L,I,h=>by cases L;cases I;rw [fH,aH] at h;exact h.1
 | a::r,b::s,k+1,x,y,L,I,h=>by rw [fH,aH] at h;exact E8 (by simpa using L) (by simpa using I) h.2
 | [],_,k,x,y,L,I,h=>by simp at L
 | a::r,[],k,x,y,L,I,h=>by simp at I
theorem sj {α:Type} {p:α->α->Bool} {a b:List α} {k:Nat} {x y:α} (L:a[k]?=some x) (I:b[k]?=some y) (h:p x y=false):fH p a b=false:=by
 cases hc:fH p a b with
 | false=>rfl
 | true=>have:=E8 L I hc;rw [h] at this;cases this
theorem Iq {α:Type} {p:α->α->Bool}:∀ {a b:List α},a.length=b.length->(∀ (k:Nat) x y,a[k]?=some x->b[k]?=some y->p x y=true)->fH p a b=true
 | [],[],_,_=>rfl
 | a::r,b::s,hl,h=>by
  rw [fH,h 0 a b rfl rfl,Iq (by simpa using hl) fun k x y L I=>h (k+1) x y (by simpa using L) (by simpa using I)];rfl
 | [],b::s,hl,h=>by simp at hl
 | a::r,[],hl,h=>by simp at hl
def tY {α:Type} (p:α->α->Bool) (a b:List α) (k:Nat):Prop:=∀ j x y,j < k->a[j]?=some x->b[j]?=some y->p x y=true
theorem mP {α:Type} {p:α->α->Bool} {a b:List α} {k:Nat} {x y:α} (L:a[k]?=some x) (I:b[k]?=some y) (h:tY p a b k) (hp:p x y=true):tY p a b (k+1):=fun j u v hj h3 h4=>by
 by_cases he:j=k
 ·subst he;rw [L] at h3;rw [I] at h4;cases h3;cases h4;exact hp
 ·exact h j u v aq h3 h4
theorem oo {α:Type} {p:α->α->Bool} {a b:List α} (hl:a.length=b.length) (h:tY p a b a.length):fH p a b=true :=
 Iq hl fun k x y L I=>h k x y (bp L).1 L I
def sc (a b:Go.Sp.Fn):Bool:=((a.name==b.name)&&fH (fun x y=>x==y) a.params b.params)&&(a.body==b.body)
def lN (a b:Go.Xp.Nd):Bool:=(((a.kind==b.kind)&&(a.n==b.n))&&(a.s==b.s))&&fH (fun x y=>x==y) a.kids b.kids
def zQ (x y:Go.Xp.Ar):Bool:=(x.name==y.name)&&(x.size==y.size)
open Go.Xp Go.Sp
theorem Iu (l:List T):(aS l).length=l.length:=by rw [tD,bP]
theorem yb (t:T):(er t).n=⟨t.n.kind,0,t.n.n,t.n.s,[]⟩:=by cases t;rw [er];rfl
theorem R5 (t:T):(er t).kids=aS t.kids:=by cases t;rw [er];rfl
mutual
theorem wD:∀ t:T,aQ (er t)=aQ t
 | .mk n l=>by rw [er,aQ,aQ,wC l]
theorem wC:∀ l:List T,aB (aS l)=aB l
 | []=>by rw [aS]
 | t::r=>by rw [aS,aB,aB,wD t,wC r]
end
theorem D0 (m:Nat):∀ (l:List T) (i:Nat),bB m i (aS l)=bB m i l
 | [],i=>by rw [aS]
 | t::r,i=>by rw [aS,bB,bB,D0 m r (i+1),yb]
theorem Ej:∀ (l:List T),(aS l).all (fun x=>gU x.n.kind)=l.all (fun x=>gU x.n.kind)
 | []=>by rw [aS]
 | t::r=>by rw [aS,all_cons,all_cons,Ej r,yb]
theorem Vk (n:Nd) (k:Nat) (kd:Nat->Bool) (bl:Bool) (h:0<=n.at_) (h':own ⟨n.kind,0,n.n,n.s,[]⟩ k kd bl=true):own n k kd bl=true:=by
 unfold own at h' |-;rw [M (by simp)] at h';rw [M (by simpa using h)];exact h'
mutual
theorem LC:∀ t:T,dv (er t)=true->xY t->dv t=true
 | .mk n l,h,ha=>by
  rw [er,dv,aH] at h;rw [xY] at ha;rw [dv,aH];refine ⟨H9 l h.1 ha.2,?_⟩;have I:own ⟨n.kind,0,n.n,n.s,[]⟩ (aS l).length (fun m=>bB m 0 (aS l)) ((aS l).all fun x=>gU x.n.kind)=true:=h.2;rw [Iu,Ej] at I;simp only [D0] at I;exact Vk n _ _ _ ha.1 I
theorem H9:∀ l:List T,cy (aS l)=true->nc l->cy l=true
 | [],_,_=>rfl
 | t::r,h,ha=>by
  rw [aS,cy,aH] at h;rw [nc] at ha;rw [cy,aH];exact ⟨LC t h.1 ha.1,H9 r h.2 ha.2⟩
end
mutual
theorem EX:∀ t:T,dv t=true->xY t
 | .mk n l,h=>by
  rw [dv,aH] at h;rw [xY];refine ⟨?_,H8 l h.1⟩;have I:own n l.length (fun m=>bB m 0 l) (l.all fun x=>gU x.n.kind)=true:=h.2
  by_cases h0:n.at_ < 0
  ·unfold own at I;rw [ab (by simpa using h0)] at I;cases I
  ·omega
theorem H8:∀ l:List T,cy l=true->nc l
 | [],_=>trivial
 | t::r,h=>by
  rw [cy,aH] at h;rw [nc];exact ⟨EX t h.1,H8 r h.2⟩
end
theorem lz (a:E):nF a.tree.n.kind=true:=by cases a <;> rfl
mutual
theorem E.gk:∀ a:E,a.ok=true->dv a.tree=true
 | .num n,h=>by
  simp only [E.ok,aH] at h;rw [E.tree,dv,cy];simp [b9,own,T.n,T.kids];exact h
 | .name s,h=>by
  simp only [E.ok] at h;rw [E.tree,dv,cy];simp [b9,own,T.n,T.kids,h]
 | .at_ s a,h=>by
  simp only [E.ok,aH] at h;have I:=E.gk a h.2;have h3:=lz a;rw [E.tree,dv,cy,cy,I];simp [b9,own,T.n,T.kids,h.1,bB];exact h3
 | .call s l,h=>by
  simp only [E.ok,aH] at h;obtain ⟨I,h3⟩:=E.sG l h.2;rw [E.tree,dv,I];have:=h3 (E.trees l).length 0 aq;simp [b9,own,T.n,T.kids,h.1,this]
 | .un s a,h=>by
  simp only [E.ok,aH] at h;have I:=E.gk a h.2;have h3:=lz a;rw [E.tree,dv,cy,cy,I];simp [b9,own,T.n,T.kids,bB];exact ⟨by simpa using h.1,h3⟩
 | .bin s a b,h=>by
  simp only [E.ok,aH] at h;have I:=E.gk a h.1.2;have h3:=lz a;have h4:=E.gk b h.2;have h5:=lz b;rw [E.tree,dv,cy,cy,cy,I,h4];simp [b9,own,T.n,T.kids,bB,h.1.1];exact ⟨h3,h5⟩
theorem E.sG:∀ l:List E,E.db l=true->cy (E.trees l)=true/\∀ m i,i+(E.trees l).length<=m->bB m i (E.trees l)=true
 | [],_=>⟨rfl,fun m i _=>rfl⟩
 | a::l,h=>by
  simp only [E.db,aH] at h;obtain ⟨I,h3⟩:=E.sG l h.2;refine ⟨by rw [E.trees,cy,E.gk a h.1,I];rfl,fun m i hm=>?_⟩;rw [E.trees,length_cons] at hm;rw [E.trees,bB,ab aq,lz a,h3 m (i+1) aq];rfl
end
theorem Vq (a:S):gU a.tree.n.kind=true:=by cases a <;> rfl
mutual
theorem S.gk:∀ a:S,a.ok=true->dv a.tree=true
 | .set s a,h=>by
  simp only [S.ok,aH] at h;have I:=E.gk a h.2;have h3:=lz a;rw [S.tree,dv,cy,cy,I];simp [b9,own,T.n,T.kids,h.1,bB];exact h3
 | .var s a,h=>by
  simp only [S.ok,aH] at h;have I:=E.gk a h.2;have h3:=lz a;rw [S.tree,dv,cy,cy,I];simp [b9,own,T.n,T.kids,h.1,bB];exact h3
 | .ret a,h=>by
  simp only [S.ok] at h;have I:=E.gk a h;have h3:=lz a;rw [S.tree,dv,cy,cy,I];simp [b9,own,T.n,T.kids,bB];exact h3
 | .do_ a,h=>by
  simp only [S.ok] at h;have I:=E.gk a h;have h3:=lz a;rw [S.tree,dv,cy,cy,I];simp [b9,own,T.n,T.kids,bB];exact h3
 | .put s a b,h=>by
  simp only [S.ok,aH] at h;have I:=E.gk a h.2.1;have h3:=lz a;have h4:=E.gk b h.2.2;have h5:=lz b;rw [S.tree,dv,cy,cy,cy,I,h4];simp [b9,own,T.n,T.kids,bB,h.1];exact ⟨h3,h5⟩
 | .if1 c b,h=>by
  simp only [S.ok,aH] at h;have I:=E.gk c h.1;have h3:=lz c;have h4:=S.vJ b h.2;rw [S.tree,dv,cy,cy,cy,I,h4];simp [b9,own,T.n,T.kids,bB];exact h3
 | .if2 c b b2,h=>by
  simp only [S.ok,aH] at h;have I:=E.gk c h.1;have h3:=lz c;have h4:=S.vJ b h.2.1;have h5:=S.vJ b2 h.2.2;rw [S.tree,dv,cy,cy,cy,cy,I,h4,h5];simp [b9,own,T.n,T.kids,bB];exact h3
 | .while_ c b,h=>by
  simp only [S.ok,aH] at h;have I:=E.gk c h.1;have h3:=lz c;have h4:=S.vJ b h.2;rw [S.tree,dv,cy,cy,cy,I,h4];simp [b9,own,T.n,T.kids,bB];exact h3
theorem S.vJ:∀ l:List S,S.db l=true->dv (.mk ⟨14,0,0,[],[]⟩ (S.trees l))=true
 | l,h=>by
  obtain ⟨L,I⟩:=S.sG l h;have h3:b9 (.mk ⟨14,0,0,[],[]⟩ (S.trees l))=own ⟨14,0,0,[],[]⟩ (S.trees l).length (fun m=>bB m 0 (S.trees l)) ((S.trees l).all fun x=>gU x.n.kind):=rfl;rw [dv,L,h3,I];simp [own]
theorem S.sG:∀ l:List S,S.db l=true->cy (S.trees l)=true/\(S.trees l).all (fun x=>gU x.n.kind)=true
 | [],_=>⟨rfl,rfl⟩
 | a::l,h=>by
  simp only [S.db,aH] at h;obtain ⟨L,I⟩:=S.sG l h.2;exact ⟨by rw [S.trees,cy,S.gk a h.1,L];rfl,by rw [S.trees,all_cons,I,Vq a];rfl⟩
end
theorem WX {n:Nd} {k:Nat} {kd:Nat->Bool} {bl:Bool} (h:own n k kd bl=true):dn n.kind k=true:=by
 have hc:n.kind=1\/n.kind=2\/n.kind=3\/n.kind=4\/n.kind=5\/n.kind=6\/n.kind=7\/n.kind=8\/n.kind=9\/n.kind=10\/n.kind=11\/n.kind=12\/n.kind=13\/n.kind=14\/(n.kind < 1\/14 < n.kind):=by omega
 unfold own at h
 by_cases h0:decide (n.at_ < 0)=true
 ·rw [ab h0] at h;cases h
 rw [M h0] at h
 by_cases L:(n.kind != 1&&n.n != 0)=true
 ·rw [ab L] at h;cases h
 rw [M L] at h;clear h0 L
 rcases hc with hk | hk | hk | hk | hk | hk | hk | hk | hk | hk | hk | hk | hk | hk | hk
 all_goals (first | (simp [hk] at h;simp [dn,hk];done) | (simp [hk] at h;simp [dn,hk];omega) | (simp [hk] at h;simp [dn,hk,h];done) | skip)
 ·exfalso
  have e1:(n.kind==1)=false:=by simp;omega
  have e2:(n.kind==2)=false:=by simp;omega
  have e3:(n.kind==3)=false:=by simp;omega
  have e4:(n.kind==4)=false:=by simp;omega
  have e5:(n.kind==5)=false:=by simp;omega
  have e6:(n.kind==6)=false:=by simp;omega
  have e7:(n.kind==7)=false:=by simp;omega
  have e8:(n.kind==8)=false:=by simp;omega
  have e9:(n.kind==9)=false:=by simp;omega
  have W9:(n.kind==10)=false:=by simp;omega
  have ZQ:(n.kind==11)=false:=by simp;omega
  have ZR:(n.kind==12)=false:=by simp;omega
  have ZS:(n.kind==13)=false:=by simp;omega
  have ZT:(n.kind==14)=false:=by simp;omega
  rw [e1,e2,e3,e4,e5,e6,e7,e8,e9,W9,ZQ,ZR,ZS,ZT] at h;simp at h
mutual
theorem Qz:∀ t:T,dv t=true->gV t=true
 | .mk n l,h=>by
  rw [dv,aH] at h;rw [gV,LD l h.1,Bool.and_true];exact WX h.2
theorem LD:∀ l:List T,cy l=true->vy l=true
 | [],_=>rfl
 | t::r,h=>by
  rw [cy,aH] at h;rw [vy,Qz t h.1,LD r h.2];rfl
end
theorem PI (t:T) (z:Int):mj (er t) z=mj t z:=by unfold mj;rw [yb]
theorem S7 (n:Nd) (l:List T) (x:List ae):uF ⟨n.kind,0,n.n,n.s,[]⟩ (aS l) x=uF n l x:=by
 unfold uF
 match l with
 | []=>rw [aS]
 | [a]=>rw [aS,aS];simp only [yb]
 | a::b::r=>rw [aS,aS];simp only [yb,PI]
mutual
theorem NZ:∀ t:T,de (er t)=de t
 | .mk n l=>by rw [er,de,de,Di l,S7]
theorem Di:∀ l:List T,gi (aS l)=gi l
 | []=>by rw [aS]
 | t::r=>by rw [aS,gi,gi,NZ t,Di r]
end
mutual
theorem Vv (inl:List ae->Nat->ae):∀ (t:T) (d:Nat),kP de inl d (er t)=kP de inl d t
 | .mk n l,d=>by
  have h:=NZ (.mk n l);rw [er] at h |-;rw [kP,kP,h,Ib inl l d,Iu]
  have:(aS l).map de=l.map de:=by rw [<-Dj,<-Dj,Di]
  rw [this];rfl
theorem Ib (inl:List ae->Nat->ae):∀ (l:List T) (d:Nat),qs de inl d (aS l)=qs de inl d l
 | [],d=>by rw [aS]
 | t::r,d=>by rw [aS,qs,qs,LJ inl t d,Ib inl r d]
theorem LJ (inl:List ae->Nat->ae):∀ (t:T) (d:Nat),nY de inl d (er t)=nY de inl d t
 | .mk n l,d=>by rw [er,nY,nY,Js inl l (d+1)]
theorem Js (inl:List ae->Nat->ae):∀ (l:List T) (d:Nat),xQ de inl d (aS l)=xQ de inl d l
 | [],d=>by rw [aS]
 | t::r,d=>by rw [aS,xQ,xQ,Vv inl t d,Js inl r d]
end
theorem Nj {s:ae} (h:eZ s=true):sA s=(ep s:Int):=by
 unfold sA ep
 cases hf:levels.findIdx? (fun l=>l.contains s) with
 | some i=>rfl
 | none =>
  rw [List.findIdx?_eq_none_iff] at hf;unfold eZ at h;rw [oY] at h;obtain ⟨l,L,I⟩:=h;have:=hf l L;rw [I] at this;cases this
theorem I0 {a:E} (h:a.ok=true) (k:Nat) (hk:k<=9):mj a.tree (k:Int)=decide (a.lv < k):=by
 have key:∀ b:Bool,(false&&b)=decide (9 < k):=fun b=>by rw [Bool.false_and,decide_eq_false aq]
 cases a with
 | bin s x y =>
  simp only [E.ok,aH] at h;show (true&&decide (sA s < (k:Int)))=decide (ep s < k);rw [Nj h.1.1,Bool.true_and];exact decide_eq_decide.2 aq
 | num n=>exact key _
 | name n=>exact key _
 | at_ s a=>exact key _
 | call s l=>exact key _
 | un s a=>exact key _
theorem CE (lv k:Nat) (x:ae):uQ (decide (lv < k)) x=qZ lv k x:=by
 unfold uQ qZ
 by_cases h:lv < k
 ·rw [ab (by simpa using h),ab h]
 ·rw [M (by simpa using h),M h]
theorem To {a:E} (h:a.ok=true):(a.tree.n.kind==6)=decide (a.lv < 9):=by
 cases a with
 | bin s x y =>
  simp only [E.ok,aH] at h;have:=(qe h.1.1).1;show true=decide (ep s < 9);exact (decide_eq_true this).symm
 | _=>rfl
mutual
theorem jW:∀ a:E,a.ok=true->de a.tree=a.bu
 | .num n,h=>by
  simp only [E.ok,aH,decide_eq_true_eq] at h;rw [E.tree,de,E.bu];unfold uF oP;simp only [if_true];rw [M aq]
 | .name s,h=>by
  rw [E.tree,de,E.bu];simp [uF]
 | .at_ s a,h=>by
  simp only [E.ok,aH] at h;have I:=jW a h.2;rw [E.tree,de,gi,gi,I,E.bu];simp [uF]
 | .call s l,h=>by
  simp only [E.ok,aH] at h;rw [E.tree,de,Jy l h.2,E.bu];simp [uF]
 | .un s a,h=>by
  simp only [E.ok,aH] at h;have I:=jW a h.2;rw [E.tree,de,gi,gi,I,E.bu,<-CE,<-To h.2];simp [uF]
 | .bin s a b,h=>by
  simp only [E.ok,aH] at h;have I:=jW a h.1.2;have h3:=jW b h.2;have hl:=(qe h.1.1).1;have e1:=I0 h.1.2 (ep s) aq;have e2:=I0 h.2 (ep s+1) aq;rw [E.tree,de,gi,gi,gi,I,h3,E.bu,<-CE,<-CE,<-e1,<-e2];unfold uF;simp only [Nj h.1.1];simp
theorem Jy:∀ l:List E,E.db l=true->gi (E.trees l)=E.da l
 | [],_=>rfl
 | a::l,h=>by
  simp only [E.db,aH] at h;rw [E.trees,gi,E.da,jW a h.1,Jy l h.2]
end
theorem Dx (x:E->ae):∀ (l:List S) (acc:ae),sM acc (l.map (S.bu x))=S.da x acc l
 | [],acc=>by rw [S.da];rfl
 | a::l,acc=>by
  rw [S.da,<-Dx x l];simp [sM,cK]
mutual
theorem SY:∀ (s:S),s.ok=true->∀ d,kP de fV d s.tree=s.bu E.bu
 | .set s a,h,d=>by
  simp only [S.ok,aH] at h;rw [S.tree,kP,List.map_cons,jW a h.2,S.bu];simp [xR]
 | .var s a,h,d=>by
  simp only [S.ok,aH] at h;rw [S.tree,kP,List.map_cons,jW a h.2,S.bu];simp [xR]
 | .ret a,h,d=>by
  simp only [S.ok] at h;rw [S.tree,kP,List.map_cons,jW a h,S.bu];simp [xR]
 | .do_ a,h,d=>by
  simp only [S.ok] at h;rw [S.tree,kP,List.map_cons,jW a h,S.bu];simp [xR]
 | .put s a b,h,d=>by
  simp only [S.ok,aH] at h;rw [S.tree,kP,List.map_cons,List.map_cons,jW a h.2.1,jW b h.2.2,S.bu];simp [xR]
 | .if1 c b,h,d=>by
  simp only [S.ok,aH] at h;have hb:=vI b h.2 d;rw [S.tree,kP,List.map_cons,jW c h.1,qs,qs,qs,hb,S.bu];simp [xR,fA]
 | .if2 c b b2,h,d=>by
  simp only [S.ok,aH] at h;have hb:=vI b h.2.1 d;have fg:=vI b2 h.2.2 d;rw [S.tree,kP,List.map_cons,jW c h.1,qs,qs,qs,qs,hb,fg,S.bu];simp [xR,fA]
 | .while_ c b,h,d=>by
  simp only [S.ok,aH] at h;have hb:=vI b h.2 d;rw [S.tree,kP,List.map_cons,jW c h.1,qs,qs,qs,hb,S.bu];simp [xR,fA]
theorem vI:∀ (l:List S),S.db l=true->∀ d,nY de fV d (.mk ⟨14,0,0,[],[]⟩ (S.trees l))=fA E.bu l
 | l,h,d=>by
  rw [nY,Ju l h (d+1),fV,Dx];rfl
theorem Ju:∀ (l:List S),S.db l=true->∀ d,xQ de fV d (S.trees l)=l.map (S.bu E.bu)
 | [],_,d=>by rw [S.trees,xQ];rfl
 | a::l,h,d=>by
  simp only [S.db,aH] at h;rw [S.trees,xQ,List.map_cons,SY a h.1,Ju l h.2]
end
theorem rC {α:Type} {p:α->α->Bool} (h:∀ x,p x x=true):∀ l:List α,fH p l l=true
 | []=>rfl
 | a::l=>by rw [fH,h a,rC h l];rfl
theorem zf {α:Type} [BEq α] [LawfulBEq α]:∀ {a b:List α},fH (fun x y=>x==y) a b=true->a=b
 | [],[],_=>rfl
 | a::r,b::s,h=>by rw [fH,aH,beq_iff_eq] at h;rw [h.1,zf h.2]
 | [],b::s,h=>by cases h
 | a::r,[],h=>by cases h
theorem Ir {α:Type} {p:α->α->Bool}:∀ {a b:List α} {c d:List α},a.length=b.length->fH p (a++c) (b++d)=(fH p a b&&fH p c d)
 | [],[],c,d,_=>rfl
 | a::r,b::s,c,d,h=>by rw [cons_append,cons_append,fH,fH,Ir (by simpa using h),Bool.and_assoc]
 | [],b::s,_,_,h=>by simp at h
 | a::r,[],_,_,h=>by simp at h
theorem xf:∀ (l:List T) (a:Nat),bg a (aS l)=bg a l
 | [],a=>by rw [aS]
 | t::r,a=>by rw [aS,bg,bg,wD,xf r]
mutual
theorem Sb:∀ (t u:T) (a:Nat),er t=er u->fH lN (fS a t) (fS a u)=true
 | .mk n l,.mk m k,a,h=>by
  rw [er,er] at h
  injection h with L I
  injection L with h3 h4 h5 h6 h7
  rw [fS,fS,fH,CK l k (a+1) I,Bool.and_true,<-xf l,<-xf k,I];simp only [lN,h3,h5,h6];simp [rC]
theorem CK:∀ (l k:List T) (a:Nat),aS l=aS k->fH lN (bO a l) (bO a k)=true
 | [],[],a,_=>by rw [bO];rfl
 | t::r,u::s,a,h=>by
  rw [aS,aS] at h
  injection h with L I
  have hz:aQ t=aQ u:=by rw [<-wD t,L,wD u]
  rw [bO,bO,Ir (by rw [rD,rD,hz]),Sb t u a L,<-hz,CK r s _ I];rfl
 | [],u::s,a,h=>by rw [aS,aS] at h;cases h
 | t::r,[],a,h=>by rw [aS,aS] at h;cases h
end
mutual
theorem SU:∀ (t u:T) (a:Nat) (x y:List Nd),fH lN (fS a t++x) (fS a u++y)=true->er t=er u/\fH lN x y=true
 | .mk n l,.mk m k,a,x,y,h=>by
  rw [fS,fS,cons_append,cons_append,fH,aH] at h;obtain ⟨L,I⟩:=h;simp only [lN,aH,beq_iff_eq] at L;obtain ⟨⟨⟨h3,h4⟩,h5⟩,h6⟩:=L;have h7:=congrArg List.length (zf h6);rw [dy,dy] at h7;obtain ⟨h8,h9⟩:=Df l k (a+1) x y h7 I;exact ⟨by rw [er,er,h3,h4,h5,h8],h9⟩
theorem Df:∀ (l k:List T) (a:Nat) (x y:List Nd),l.length=k.length->fH lN (bO a l++x) (bO a k++y)=true->aS l=aS k/\fH lN x y=true
 | [],[],a,x,y,_,h=>by rw [bO,nil_append,nil_append] at h;exact ⟨rfl,h⟩
 | t::r,u::s,a,x,y,hl,h=>by
  rw [bO,bO,cK,cK] at h;obtain ⟨L,I⟩:=SU t u a _ _ h
  have hz:aQ t=aQ u:=by rw [<-wD t,L,wD u]
  rw [<-hz] at I;obtain ⟨h3,h4⟩:=Df r s _ x y (by simpa using hl) I;exact ⟨by rw [aS,aS,L,h3],h4⟩
 | [],u::s,a,x,y,hl,h=>by simp at hl
 | t::r,[],a,x,y,hl,h=>by simp at hl
end
theorem SR {l k:List T} (hl:l.length=k.length) (h:fH lN (bO 0 l) (bO 0 k)=true):aS l=aS k:=by
 have:=Df l k 0 [] [] hl (by rw [cq,cq];exact h);exact this.1
structure PS where
 trees:List T
 globals:List ae
 arrays:List Ar
 fns:List (ae × List ae)
def PS.empty:PS:=⟨[],[],[],[]⟩
def pF:Nat->List ae->RS->Option (List ae × RS)
 | 0,_,_=>none
 | f+1,acc,p =>
  if p.code=0/\is p 0 [41]=false then pF f (acc++[(tok (if acc.length=0 then p else want p [44]) 0).s]) (bD (if acc.length=0 then p else want p [44]))
  else some (acc,want p [41])
def iW (f:Nat) (p:RS) (st:PS):Option (RS × PS) :=
 if is p 0 mi=true then
  if (bD p.next).code=0/\is (bD p.next) 0 [91]=true then
   if (tok (bD p.next).next 0).kind=1 then
    some (want (want (bD p.next).next.next [93]) [59],{ st with arrays:=st.arrays++[⟨(tok p.next 0).s,(tok (bD p.next).next 0).n⟩] })
   else some (kV (bD p.next).next,st)
  else some (want (bD p.next) [59],{ st with globals:=st.globals++[(tok p.next 0).s] })
 else if is p 0 nH=true then
  match pF f [] (want (bD p.next) [40]) with
  | none=>none
  | some (l,q) =>
   if q.code=0 then match iS f (.block 1) q with
    | none=>none
    | some (t,q)=>some (q,{ st with trees:=st.trees++[t],fns:=st.fns++[((tok p.next 0).s,l)] })
   else some (q,st)
 else some (kV p,st)
def n8:Nat->Nat->RS->PS->Option (RS × PS)
 | 0,_,_,_=>none
 | g+1,f,p,st =>
  if p.code=0/\p.i < p.l.length then match iW f p st with
   | none=>none
   | some (p,st)=>n8 g f p st
  else some (p,st)
theorem MZ:∀ (f:Nat) (acc:List ae) (p:RS) (l:List ae) (q:RS),p.ok->pF f acc p=some (l,q)->p.to q
 | 0,_,_,_,_,_,h=>by cases h
 | f+1,acc,p,l,q,hp,h=>by
  rw [pF] at h;split at h
  ·have L:p.to (if acc.length=0 then p else want p [44]):=by split;exact kB hp;exact cM hp _
   have I:=iG (L.ok hp);have h3:=MZ f _ _ l q ((L.trans I).ok hp) h;exact (L.trans I).trans h3
  ·cases h;exact cM hp _
theorem Wq {f:Nat} {p q:RS} {st ey:PS} (hp:p.ok) (h:iW f p st=some (q,ey)):p.to q:=by
 unfold iW at h;split at h
 ·rename_i hi;have L:=kv hi;have I:=L.trans (iG (L.ok hp));split at h
  ·rename_i hb;have h3:=I.trans (kv hb.2);split at h
   ·rename_i hk
    have mx:(tok (bD p.next).next 0).kind≠0:=by rw [hk];decide
    have h4:=h3.trans (dT (by have:=sF mx;exact this));have h5:=h4.trans (cM (h4.ok hp) [93])
    cases h;exact h5.trans (cM (h5.ok hp) _)
   ·cases h;exact h3.trans (xA (h3.ok hp))
  ·cases h;exact I.trans (cM (I.ok hp) _)
 ·split at h
  ·rename_i hi;have L:=kv hi;have I:=L.trans (iG (L.ok hp));have h3:=I.trans (cM (I.ok hp) [40])
   cases hm:pF f [] (want (bD p.next) [40]) with
   | none=>rw [hm] at h;cases h
   | some r =>
    obtain ⟨l,q1⟩:=r;rw [hm] at h;simp only at h;have h4:=h3.trans (MZ _ _ _ _ _ (h3.ok hp) hm);split at h
    ·cases hb:iS f (.block 1) q1 with
     | none=>rw [hb] at h;cases h
     | some r =>
      obtain ⟨t,q2⟩:=r;rw [hb] at h;cases h;exact h4.trans ((EI f).1 _ _ _ _ (h4.ok hp) hb)
    ·cases h;exact h4
  ·cases h;exact xA hp
structure PS.le (a:PS) (n:Nat):Prop where
 trees:a.trees.length<=n
 globals:a.globals.length<=n
 arrays:a.arrays.length<=n
 fns:a.fns.length=a.trees.length
theorem Wo {f n:Nat} {p q:RS} {st ey:PS} (h:iW f p st=some (q,ey)) (hs:st.le n):ey.le (n+1):=by
 obtain ⟨a,b,c,d⟩:=hs;have key:st.le (n+1):=⟨by omega,by omega,by omega,d⟩;unfold iW at h;split at h
 ·split at h
  ·split at h
   ·cases h;exact ⟨by simp;omega,by simp;omega,by simp;omega,by simp;omega⟩
   ·cases h;exact key
  ·cases h;exact ⟨by simp;omega,by simp;omega,by simp;omega,by simp;omega⟩
 ·split at h
  ·split at h
   ·cases h
   ·split at h
    ·split at h
     ·cases h
     ·cases h;exact ⟨by simp;omega,by simp;omega,by simp;omega,by simp;omega⟩
    ·cases h;exact key
  ·cases h;exact key
end Go.Im
namespace Go.Sp
open Go.Xp
inductive Tz (s:ae):Nat->List Tok->Nat->Prop
 | nil (a:Nat):Tz s a [] a
 | blank {a b:Nat} {c:UInt8} {ts:List Tok} (hc:s[a]?=some c) (hb:eb c=true) (h:Tz s (a+1) ts b):Tz s a ts b
 | tok {a a' b:Nat} {c:UInt8} {t:Tok} {ts:List Tok} (hc:s[a]?=some c) (hb:eb c=false) (hr:bM s a [47,42]=false) (ht:jG s a c=(t,a')) (hk:t.kind=1\/t.kind=2\/t.kind=3) (hn:t.n<=2147483647) (ha:a < a') (h:Tz s a' ts b):Tz s a (t::ts) b
theorem Tz.app {s:ae} {a b c:Nat} {ts us:List Tok} (h:Tz s a ts b) (k:Tz s b us c):Tz s a (ts++us) c:=by
 induction h with
 | nil a=>exact k
 | blank hc hb h ih=>exact .blank hc hb (ih k)
 | tok hc hb hr ht hk hn ha h ih=>exact .tok hc hb hr ht hk hn ha (ih k)
theorem Tz.kinds {s:ae} {a b:Nat} {ts:List Tok} (h:Tz s a ts b):∀ t∈ts,t.kind=1\/t.kind=2\/t.kind=3:=by
 induction h with
 | nil a=>intro t h;cases h
 | blank hc hb h ih=>exact ih
 | tok hc hb hr ht hk hn ha h ih =>
  intro t h
  rcases dA h with rfl | h
  ·exact hk
  ·exact ih t h
theorem Tz.len {s:ae} {a b:Nat} {ts:List Tok} (h:Tz s a ts b):a+ts.length<=b:=by
 induction h with
 | nil a=>simp
 | blank hc hb h ih=>omega
 | tok hc hb hr ht hk hn ha h ih=>simp only [length_cons];omega
theorem NO (s:ae):∀ (f f' a:Nat),a<=s.length->s.length < f+a->s.length < f'+a->skip s f a=skip s f' a:=by
 intro f
 induction f with
 | zero=>intro f' a L I;omega
 | succ f ih =>
  intro f' a L I h3;obtain ⟨f',rfl⟩:∃ g,f'=g+1:=⟨f' - 1,by omega⟩;rw [skip,skip]
  cases hc:s[a]? with
  | none=>rfl
  | some c =>
   simp only;have ak:=(bp hc).1;split
   ·exact ih f' (a+1) aq aq aq
   ·split
    ·rename_i hb;have hb:=kq hb;have hb:a+2<=s.length:=hb;have h4:=tg s s.length (a+2) hb;have h5:=rY s s.length (a+2) hb aq;split
     ·rfl
     ·rename_i hn
      have h6:bM s (fp s s.length (a+2)) [42,47]=true:=by
       cases qb:bM s (fp s s.length (a+2)) [42,47] with
       | true=>rfl
       | false=>exact absurd ⟨by omega,qb⟩ h5
      have h6:=kq h6;have h6:fp s s.length (a+2)+2<=s.length:=h6;exact ih f' _ aq aq aq
    ·rfl
theorem Tz.jx {s:ae} {a b:Nat} {ts:List Tok} (h:Tz s a ts b):∀ (f:Nat) (acc:List Tok),qP s (f+ts.length) (skip s (s.length+1) a).1 acc=qP s f (skip s (s.length+1) b).1 (acc++ts):=by
 induction h with
 | nil a=>intro f acc;simp
 | blank hc hb h ih =>
  rename_i a b c ts;intro f acc;have ak:=(bp hc).1;rw [<-ih f acc]
  have:skip s (s.length+1) a=skip s (s.length+1) (a+1):=by
   rw [skip,hc];simp only;rw [ab hb];exact NO s _ _ _ aq aq aq
  rw [this]
 | tok hc hb hr ht hk hn ha h ih =>
  rename_i a a' b c t ts;intro f acc
  have:skip s (s.length+1) a=(a,-1):=by
   rw [skip,hc];simp only;rw [M (by rw [hb];decide),M (by rw [hr];decide)]
  rw [this,length_cons,<-fP,qP,hc];simp only [ht];rw [ih f (acc++[t]),cK];rfl
theorem Tz.all {s:ae} {ts:List Tok} (h:Tz s 0 ts s.length):Go.Sp.jx s=some ts:=by
 have L:=h.len;have I:=h.jx (s.length+2 - ts.length) [];unfold Go.Sp.jx;rw [show s.length+2 - ts.length+ts.length=s.length+2 by omega] at I;rw [I]
 have h3:skip s (s.length+1) s.length=(s.length,-1):=by rw [skip];simp
 rw [h3];obtain ⟨g,hg⟩:∃ g,s.length+2 - ts.length=g+1:=⟨s.length+1 - ts.length,by omega⟩;rw [hg,qP];simp
theorem nM {s r:ae} {a:Nat} {c:UInt8} (h:s.drop a=c::r):s[a]?=some c/\s.drop (a+1)=r/\a < s.length:=by
 have L:s[a]?=some c:=by
  have:=List.getElem?_drop (xs:=s) (i:=a) (j:=0);rw [h] at this;simpa using this.symm
 refine ⟨L,?_,(bp L).1⟩;rw [<-List.tail_drop,h];rfl
theorem SO (s:ae) (p:UInt8->Bool):∀ (w post:ae) (f a:Nat),s.drop a=w++post->(∀ c∈w,p c=true)->run s p (f+w.length) a=run s p f (a+w.length):=by
 intro w
 induction w with
 | nil=>intro post f a h hp;rfl
 | cons c w ih =>
  intro post f a h hp;obtain ⟨L,I,_⟩:=nM h;rw [length_cons,<-fP,run,L];simp only;rw [ab (hp c (mem_cons_self)),ih post f (a+1) I (fun c hc=>hp c (di _ hc))]
  congr 1;omega
theorem P1 (s:ae) (p:UInt8->Bool) (post:ae) (f a:Nat) (h:s.drop a=post) (hp:∀ c,post.head?=some c->p c=false):run s p f a=a:=by
 cases f with
 | zero=>rfl
 | succ f =>
  rw [run]
  cases post with
  | nil =>
   have:s[a]?=none:=by
    rw [List.getElem?_eq_none_iff];have:=congrArg List.length h;simp at this;omega
   rw [this]
  | cons c r =>
   obtain ⟨L,_,_⟩:=nM h;rw [L];simp only;rw [M (by rw [hp c rfl];decide)]
theorem take_drop {s w post:ae} {a:Nat} (h:s.drop a=w++post):(s.take (a+w.length)).drop a=w:=by
 rw [List.drop_take,h,Nat.add_sub_cancel_left,List.take_left]
theorem F6 {s w post:ae} {a:Nat} (h:s.drop a=w++post) (ha:a<=s.length):a+w.length+post.length=s.length:=by
 have:=congrArg List.length h;simp only [iK,aU] at this;omega
theorem Qs {s w post:ae} {a:Nat} {c:UInt8} {r:ae} (ha:a<=s.length) (h:s.drop a=w++post) (hw:w=c::r) (hs:small c=true) (aY:∀ c∈w,ei c=true) (hp:∀ c,post.head?=some c->ei c=false) :
  jG s a c=(⟨if words.contains w=true then 3 else 2,0,w,a⟩,a+w.length):=by
 have hl:=F6 h ha
 have he:fa s a=a+w.length:=by
  unfold fa;obtain ⟨g,hg⟩:∃ g,s.length+1=g+w.length:=⟨s.length+1 - w.length,by omega⟩;rw [hg,SO s ei w post g a h aY];refine P1 s ei post g _ ?_ hp;rw [<-List.drop_drop,h,drop_left]
 have hd:ew c=false:=by
  simp only [small,ew,aH] at hs |-;have L:=nw hs.1
  have:¬ ((c.toNat:Int)<=57):=by omega
  simp [this]
 unfold jG;rw [M (by rw [hd];decide),ab hs];unfold fE;rw [he,take_drop h]
def fold (n:Int) (w:ae):Int:=w.foldl (fun n c=>if n<=2147483647 then n * 10+((c.toNat:Int) - 48) else n) n
theorem KR (s:ae):∀ (w post:ae) (f:Nat) (n:Int) (a:Nat),s.drop a=w++post->(∀ c∈w,ew c=true)->number s (f+w.length) n a=number s f (fold n w) (a+w.length):=by
 intro w
 induction w with
 | nil=>intro post f n a h hp;rfl
 | cons c w ih =>
  intro post f n a h hp;obtain ⟨L,I,_⟩:=nM h;rw [length_cons,<-fP,number,L];simp only;rw [ab (hp c (mem_cons_self)),ih post f _ (a+1) I (fun c hc=>hp c (di _ hc))];rw [show a+1+w.length=a+(w.length+1) by omega];rfl
theorem HO (s:ae) (post:ae) (f:Nat) (n:Int) (a:Nat) (h:s.drop a=post) (hp:∀ c,post.head?=some c->ew c=false):number s f n a=(n,a):=by
 cases f with
 | zero=>rfl
 | succ f =>
  rw [number]
  cases post with
  | nil =>
   have:s[a]?=none:=by
    rw [List.getElem?_eq_none_iff];have:=congrArg List.length h;simp at this;omega
   rw [this]
  | cons c r =>
   obtain ⟨L,_,_⟩:=nM h;rw [L];simp only;rw [M (by rw [hp c rfl];decide)]
theorem LW (k:Nat) (h:k<=9):ew (UInt8.ofNat (48+k))=true/\((UInt8.ofNat (48+k)).toNat:Int)=48+k:=by
 have:(UInt8.ofNat (48+k)).toNat=48+k:=by simp;omega
 refine ⟨?_,by rw [this];omega⟩;simp only [ew,aH,this];exact ⟨decide_eq_true aq,decide_eq_true aq⟩
theorem Il (n:Nat):(∀ c∈c6 n,ew c=true)/\(n<=2147483647->fold 0 (c6 n)=n)/\c6 n≠[]:=by
 induction n using Nat.strongRecOn with
 | _ n ih =>
 unfold c6
 by_cases h:n < 10
 ·rw [dif_pos h];obtain ⟨L,I⟩:=LW n aq;refine ⟨fun c hc=>by rw [mem_singleton] at hc;subst hc;exact L,fun _=>?_,by simp⟩;simp only [fold,foldl_cons,List.foldl_nil];rw [ab aq,I];omega
 ·rw [dif_neg h];obtain ⟨L,I,h3⟩:=ih (n / 10) aq;obtain ⟨h4,h5⟩:=LW (n % 10) aq;refine ⟨fun c hc=>?_,fun hn=>?_,by simp⟩
  ·rcases oI hc with hc | hc
   ·exact L c hc
   ·rw [mem_singleton] at hc;subst hc;exact h4
  ·have:=I aq;unfold fold at this |-;rw [List.foldl_append,this];simp only [foldl_cons,List.foldl_nil];rw [ab aq,h5];omega
theorem SD {s post:ae} {n a:Nat} {c:UInt8} {r:ae} (ha:a<=s.length) (h:s.drop a=c6 n++post) (hw:c6 n=c::r) (hn:n<=2147483647) (hp:∀ c,post.head?=some c->ew c=false) :
  jG s a c=(⟨1,n,[],a⟩,a+(c6 n).length):=by
 obtain ⟨L,I,h3⟩:=Il n;have hl:=F6 h ha;have hd:ew c=true:=L c (by rw [hw];exact mem_cons_self);obtain ⟨g,hg⟩:∃ g,s.length+1=g+(c6 n).length:=⟨s.length+1 - (c6 n).length,by omega⟩;unfold jG;rw [ab hd,hg,KR s (c6 n) post g 0 a h L,I hn,HO s post g _ _ (by rw [<-List.drop_drop,h,drop_left]) hp]
theorem vo {s r t:ae} {a:Nat} (h:s.drop a=r) (ha:a<=s.length):bM s a t=t.isPrefixOf r:=by
 have hl:a+r.length=s.length:=by have:=congrArg List.length h;simp at this;omega
 unfold bM;rw [List.drop_take,h,Nat.add_sub_cancel_left]
 by_cases hp:t <+: r
 ·obtain ⟨z,rfl⟩:=hp;simp only [aU] at hl
  have I:t.isPrefixOf (t++z)=true:=by rw [List.isPrefixOf_iff_prefix];exact ⟨z,rfl⟩
  rw [I,List.take_left];simp only [aH,beq_self_eq_true,and_true,decide_eq_true_eq];omega
 ·have L:t.isPrefixOf r=false:=by
   cases hh:t.isPrefixOf r with
   | false=>rfl
   | true=>exact absurd (List.isPrefixOf_iff_prefix.1 hh) hp
  rw [L]
  have I:(r.take t.length==t)=false:=by
   rw [beq_eq_false_iff_ne];intro h3;exact hp ⟨r.drop t.length,by have:=take_append_drop t.length r;rw [h3] at this;exact this⟩
  rw [I,Bool.and_false]
def Dc:List UInt8:=[32,40,41,91,93,44,59,123,125,10]
def Sep (post:ae):Prop:=∀ c,post.head?=some c->c∈Dc
theorem Sep.ei {post:ae} (h:Sep post):∀ c,post.head?=some c->ei c=false:=by
 intro c hc
 have:∀ c∈Dc,Go.Sp.ei c=false:=by decide
 exact this c (h c hc)
theorem Sep.ew {post:ae} (h:Sep post):∀ c,post.head?=some c->ew c=false:=by
 intro c hc
 have:∀ c∈Dc,Go.Sp.ew c=false:=by decide
 exact this c (h c hc)
theorem SI {x y z:ae} (h:x.length<=y.length):x.isPrefixOf (y++z)=x.isPrefixOf y:=by
 induction x generalizing y with
 | nil=>simp
 | cons a x ih =>
  cases y with
  | nil=>simp at h
  | cons b y=>simp only [cons_append,List.isPrefixOf];rw [ih (by simpa using h)]
theorem find_congr {α:Type} {p q:α->Bool}:∀ {l:List α},(∀ x∈l,p x=q x)->l.find? p=l.find? q
 | [],_=>rfl
 | a::l,h=>by rw [List.find?_cons,List.find?_cons,h a (mem_cons_self),find_congr (fun x hx=>h x (di _ hx))]
theorem P7 {s w post:ae} {a:Nat} {c:UInt8} {r:ae} (ha:a<=s.length) (h:s.drop a=w++post) (hw:w=c::r) (hm:w∈bX) (hp:Sep post) :
  jG s a c=(⟨3,0,w,a⟩,a+w.length)/\eb c=false/\bM s a [47,42]=false:=by
 have hd:∀ w∈bX,∀ c,w.head?=some c->ew c=false/\small c=false/\eb c=false:=by
  have:∀ w∈bX,(match w.head? with | some c=>!ew c&&!small c&&!eb c | none=>true)=true:=by decide
  intro w hw c hc;have:=this w hw;rw [hc] at this;simp only [aH,Bool.not_eq_true'] at this;exact ⟨this.1.1,this.1.2,this.2⟩
 obtain ⟨L,I,h3⟩:=hd w hm c (by rw [hw];rfl)
 have QY:∀ w∈bX,w.length<=2/\1<=w.length:=by decide
 have key:∀ w∈bX,bX.find? (fun x=>x.isPrefixOf w)=some w/\[47,42].isPrefixOf w=false:=by decide
 have Zr:∀ w∈bX,∀ c∈Dc,bX.find? (fun x=>x.isPrefixOf (w++[c]))=some w/\[47,42].isPrefixOf (w++[c])=false:=by decide
 have hf:bX.find? (bM s a)=some w/\bM s a [47,42]=false:=by
  have e1:∀ x,bM s a x=x.isPrefixOf (w++post):=fun x=>vo h ha
  have e2:bX.find? (bM s a)=bX.find? (fun x=>x.isPrefixOf (w++post)):=find_congr fun x _=>e1 x
  rw [e2,e1]
  cases post with
  | nil=>rw [cq];exact key w hm
  | cons c' post =>
   have dP:=hp c' rfl
   have e3:∀ x:ae,x.length<=2->x.isPrefixOf (w++c'::post)=x.isPrefixOf (w++[c']):=fun x hx=>by
    rw [show w++c'::post=(w++[c'])++post by simp];exact SI (by rw [aU];have:=(QY w hm).2;simp;omega)
   rw [find_congr fun x hx=>e3 x (QY x hx).1,e3 _ av];exact Zr w hm c' dP
 refine ⟨?_,h3,hf.2⟩;unfold jG;rw [M (by rw [L];decide),M (by rw [I];decide),hf.1]
theorem O6 {s post:ae} {a:Nat} {c:UInt8} (ha:a<=s.length) (h:s.drop a=c::post) (hm:c∈[40,41,91,93,44,59,123,125]) :
  jG s a c=(⟨3,0,[c],a⟩,a+1)/\eb c=false/\bM s a [47,42]=false:=by
 have hd:∀ c∈([40,41,91,93,44,59,123,125]:List UInt8),ew c=false/\small c=false/\eb c=false/\c≠47:=by decide
 obtain ⟨L,I,h3,h4⟩:=hd c hm
 have e1:∀ x,bM s a x=x.isPrefixOf (c::post):=fun x=>vo h ha
 have e2:bX.find? (bM s a)=bX.find? (fun x=>x.isPrefixOf (c::post)):=find_congr fun x _=>e1 x
 have key:∀ post:ae,∀ c∈([40,41,91,93,44,59,123,125]:List UInt8),bX.find? (fun x=>x.isPrefixOf (c::post))=some [c]:=by
  intro post c hc;simp only [List.mem_cons,List.not_mem_nil,or_false] at hc
  rcases hc with rfl | rfl | rfl | rfl | rfl | rfl | rfl | rfl <;> rfl
 refine ⟨?_,h3,?_⟩
 ·unfold jG;rw [M (by rw [L];decide),M (by rw [I];decide),e2,key post c hm];rfl
 ·rw [e1];simp only [List.isPrefixOf]
  have:((47:UInt8)==c)=false:=by rw [beq_eq_false_iff_ne];exact fun h=>h4 h.symm
  rw [this,Bool.false_and]
end Go.Sp
namespace Go.Im
open Go.Xp Go.Sp
def mH:List ae:=[[105,110,116],[118,97,114],[102,117,110,99],[105,102],[101,108,115,101],[119,104,105,108,101],[114,101,116,117,114,110],[124,124],[38,38],[61,61],[33,61],[60,61],[62,61],[60,60],[62,62],[40],[41],[123],[125],[91],[93],[44],[59],[61],[60],[62],[43],[45],[42],[47],[37],[38],[124],[94],[33],[126]]
theorem yX:mH=words++bX:=by decide
def kJ (s:ae):Bool:=mH.contains s
def kM:ae->Int->Int
 | [],n=>n
 | c::r,n=>if n<=2147483647 then kM r (10 * n+((c.toNat:Int) - 48)) else n
def cZ (s:ae) (a b:Nat):ae:=(s.take b).drop a
def gY (s:ae) (a:Nat) (k:Nat):Bool:=decide (a+k<=s.length)&&(match s[a]? with | some c=>!(small c) | none=>false)&&kJ (cZ s a (a+k))
def gx (s:ae) (a:Nat):ae:=if gY s a 2=true then cZ s a (a+2) else if gY s a 1=true then cZ s a (a+1) else []
def kF (s:ae) (a:Nat):Nat:=run s ew (s.length+1) a
def qN:Tok:=⟨0,0,[],0⟩
def lk (s:ae) (a:Nat) (c:UInt8):Tok × Nat × Int :=
 if ew c=true then
  if kM (cZ s a (kF s a)) 0 > 2147483647 then (qN,a,3) else (⟨1,kM (cZ s a (kF s a)) 0,[],a⟩,kF s a,0)
 else if small c=true then (⟨if kJ (fE s a)=true then 3 else 2,0,fE s a,a⟩,fa s a,0)
 else if gx s a=[] then (qN,a,2)
 else (⟨3,0,gx s a,a⟩,a+(gx s a).length,0)
def qC:ae->Option Nat
 | []=>none
 | b::l=>if List.isPrefixOf [42,47] (b::l) then some 0 else match qC l with | none=>none | some n=>some (n+1)
def nS (s:ae):Nat->Nat->List Tok->Option (List Tok × Int × Int)
 | 0,_,_=>none
 | f+1,a,acc=>match s[a]? with
  | none=>some (acc,0,0)
  | some c =>
   if eb c=true then nS s f (a+1) acc
   else if bM s a [47,42]=true then
    match qC (s.drop (a+2)) with
    | none=>some ([],4,a)
    | some n=>nS s f (a+(n+4)) acc
   else if (lk s a c).2.2≠0 then some ([],(lk s a c).2.2,a)
   else nS s f (lk s a c).2.1 (acc++[(lk s a c).1])
structure Be (t:Tok):Prop where
 num:t.kind=1->0<=t.n/\t.n<=2147483647/\t.s=[]
 name:t.kind=2->word t.s=true/\kJ t.s=false
 sign:t.kind=3->kJ t.s=true
 kinds:t.kind=1\/t.kind=2\/t.kind=3
theorem lU {s:ae} {a b:Nat} (h:b<=s.length):(cZ s a b).length=b - a:=by
 unfold cZ;rw [iK,cS];omega
theorem p8 {s:ae} {a b:Nat} {c:UInt8} (h:s[a]?=some c) (hb:a < b) (hl:b<=s.length):cZ s a b=c::cZ s (a+1) b:=by
 unfold cZ;have ak:=(bp h).1
 have:(s.take b)[a]?=some c:=by rw [getElem?_take,ab hb];exact h
 have I:=(bp this);rw [kW I.1,I.2]
theorem Da (s:ae) (p:UInt8->Bool):∀ (f a:Nat),a<=s.length->∀ c∈cZ s a (run s p f a),p c=true:=by
 intro f
 induction f with
 | zero =>
  intro a ha c hc;rw [Go.Sp.run] at hc
  have:(cZ s a a).length=0:=by rw [lU ha];omega
  rw [gJ this] at hc;cases hc
 | succ f ih =>
  intro a ha c hc;rw [Go.Sp.run] at hc
  have FF:∀ x:ae,x=cZ s a a->c∈x->p c=true:=fun x hx hm=>by
   have:(cZ s a a).length=0:=by rw [lU ha];omega
   rw [hx,gJ this] at hm;cases hm
  cases hq:s[a]? with
  | none=>rw [hq] at hc;exact FF _ rfl hc
  | some d =>
   rw [hq] at hc;simp only at hc;have ak:=(bp hq).1
   by_cases hp:p d=true
   ·rw [ab hp] at hc
    have mw:a+1<=Go.Sp.run s p f (a+1)/\Go.Sp.run s p f (a+1)<=s.length:=by
     have:∀ (f a:Nat),a<=s.length->a<=Go.Sp.run s p f a/\Go.Sp.run s p f a<=s.length:=by
      intro f
      induction f with
      | zero=>intro a h;exact ⟨aD _,h⟩
      | succ f ih =>
       intro a h;rw [Go.Sp.run]
       cases hq:s[a]? with
       | none=>exact ⟨aD _,h⟩
       | some d =>
        simp only;split
        ·have:=ih (a+1) (bp hq).1;omega
        ·exact ⟨aD _,h⟩
     exact this f (a+1) ak
    rw [p8 hq aq mw.2] at hc
    rcases dA hc with rfl | hc
    ·exact hp
    ·exact ih (a+1) ak c hc
   ·rw [M hp] at hc;exact FF _ rfl hc
theorem Je:∀ (w:ae) (n:Int),0<=n->(∀ c∈w,ew c=true)->0<=kM w n
 | [],n,h,_=>h
 | c::r,n,h,hd=>by
  rw [kM];have hc:=hd c (mem_cons_self);simp only [ew,aH,decide_eq_true_eq] at hc;split
  ·exact Je r _ aq (fun c hc=>hd c (di _ hc))
  ·exact h
theorem Pq {x:ae} (h:kJ x=true):x≠[]:=by
 intro h0;subst h0;revert h;decide
theorem JA {s:ae} {a:Nat} {c:UInt8} (hc:s[a]?=some c) (h0:(lk s a c).2.2=0):Be (lk s a c).1/\(lk s a c).1.at_=a/\a < (lk s a c).2.1/\(lk s a c).2.1<=s.length:=by
 have ak:=(bp hc).1;unfold lk at h0 |-
 by_cases hd:ew c=true
 ·rw [ab hd] at h0 |-
  by_cases hn:kM (cZ s a (kF s a)) 0 > 2147483647
  ·rw [ab hn] at h0;cases h0
  ·rw [M hn];obtain ⟨e1,e2,e3⟩:=qh s ew (s.length+1) a aq aq
   have zZ:a < kF s a:=by
    rcases Nat.lt_or_ge a (kF s a) with h | h
    ·exact h
    ·have he:Go.Sp.run s ew (s.length+1) a=a:=by unfold kF at h;omega
     have:=e1 c (by rw [he];exact hc);rw [hd] at this;cases this
   refine ⟨⟨fun _=>⟨Je _ _ av (Da s ew _ a aq),by simpa using hn,rfl⟩,fun h=>by simp at h,fun h=>by simp at h,.inl rfl⟩,rfl,zZ,e3⟩
 ·rw [M hd] at h0 |-
  by_cases hs:small c=true
  ·rw [ab hs];obtain ⟨e1,e2,e3⟩:=qh s ei (s.length+1) a aq aq
   have vT:ei c=true:=by simp [ei,hs]
   have zZ:a < fa s a:=by
    rcases Nat.lt_or_ge a (fa s a) with h | h
    ·exact h
    ·have he:Go.Sp.run s ei (s.length+1) a=a:=by unfold fa at h;omega
     have:=e1 c (by rw [he];exact hc);rw [vT] at this;cases this
   have hw:word (fE s a)=true:=by
    have L:fE s a=c::cZ s (a+1) (fa s a):=p8 hc zZ e3;have I:=Da s ei (s.length+1) a aq;unfold word;have h3:(fE s a).all ei=true:=gK.2 I;rw [h3,L];simp [hs]
   refine ⟨⟨fun h=>?_,fun h=>⟨hw,?_⟩,fun h=>?_,?_⟩,rfl,zZ,e3⟩
   ·simp only at h;split at h <;> cases h
   ·simp only at h;split at h
    ·cases h
    ·rename_i hh;simpa using hh
   ·simp only at h;split at h
    ·assumption
    ·cases h
   ·simp only;split
    ·exact .inr (.inr rfl)
    ·exact .inr (.inl rfl)
  ·rw [M hs] at h0 |-
   by_cases hg:gx s a=[]
   ·rw [ab hg] at h0;cases h0
   ·rw [M hg]
    have key:kJ (gx s a)=true/\a+(gx s a).length<=s.length:=by
     unfold gx at hg |-
     have aux:∀ k,gY s a k=true->kJ (cZ s a (a+k))=true/\a+(cZ s a (a+k)).length<=s.length:=fun k h=>by
      simp only [gY,aH,decide_eq_true_eq] at h;refine ⟨h.2,?_⟩;rw [lU h.1.1];have:=h.1.1;omega
     split
     ·exact aux 2 (by assumption)
     ·rename_i I;rw [M I] at hg;split
      ·exact aux 1 (by assumption)
      ·rename_i L;rw [M L] at hg;exact absurd rfl hg
    have hl:=List.length_pos_iff.2 (Pq key.1);exact ⟨⟨fun h=>by simp at h,fun h=>by simp at h,fun _=>key.1,.inr (.inr rfl)⟩,rfl,by simp only;omega,key.2⟩
theorem CR:∀ {l:ae} {n:Nat},qC l=some n->n+2<=l.length
 | [],n,h=>by cases h
 | b::l,n,h=>by
  rw [qC] at h;split at h
  ·rename_i hp;cases h
   cases l with
   | nil=>simp [List.isPrefixOf] at hp
   | cons d l=>simp
  ·cases hq:qC l with
   | none=>rw [hq] at h;cases h
   | some m=>rw [hq] at h;cases h;have:=CR hq;simp only [length_cons];omega
theorem sx (s:ae):∀ (f a:Nat) (acc:List Tok),a<=s.length->s.length < f+a->(∀ t∈acc,Be t)->(acc.Pairwise fun x y=>x.at_ < y.at_)->(∀ t∈acc,t.at_ < (a:Int))->acc.length<=a ->
  ∃ ts c z,nS s f a acc=some (ts,c,z)/\(∀ t∈ts,Be t)/\(ts.Pairwise fun x y=>x.at_ < y.at_)/\ts.length<=s.length
 | 0,a,acc,L,I,_,_,_,_=>by omega
 | f+1,a,acc,L,I,h3,h4,h5,h6=>by
  rw [nS]
  cases hc:s[a]? with
  | none=>exact ⟨acc,0,0,rfl,h3,h4,by omega⟩
  | some c =>
   simp only;have ak:=(bp hc).1;split
   ·exact sx s f (a+1) acc aq aq h3 h4 (fun t ht=>by have:=h5 t ht;omega) aq
   ·split
    ·rename_i hb;have n5:=kq hb;simp only [length_cons,length_nil] at n5
     cases hi:qC (s.drop (a+2)) with
     | none=>exact ⟨[],4,a,rfl,fun t h=>by simp at h,.nil,aM _⟩
     | some n =>
      have:=CR hi;rw [iK] at this;exact sx s f (a+(n+4)) acc aq aq h3 h4 (fun t ht=>by have:=h5 t ht;omega) aq
    ·split
     ·exact ⟨[],_,a,rfl,fun t h=>by simp at h,.nil,aM _⟩
     ·rename_i h0;obtain ⟨k1,k2,k3,k4⟩:=JA hc (by simpa using h0);refine sx s f _ _ k4 aq (fun t ht=>?_) ?_ (fun t ht=>?_) (by rw [aU];simp only [length_cons,length_nil];omega)
      ·rcases oI ht with h | h
       ·exact h3 t h
       ·rw [mem_singleton] at h;subst h;exact k1
      ·rw [List.pairwise_append];refine ⟨h4,List.pairwise_singleton _ _,fun x hx y hy=>?_⟩;rw [mem_singleton] at hy;subst hy;rw [k2];exact h5 x hx
      ·rcases oI ht with h | h
       ·have:=h5 t h;omega
       ·rw [mem_singleton] at h;subst h;rw [k2];omega
theorem Ai (s:ae):∀ (f:Nat) (n:Int) (a:Nat),a<=s.length->s.length < f+a->kM (cZ s a (number s f n a).2) n=(number s f n a).1
 | 0,n,a,L,I=>by omega
 | f+1,n,a,L,I=>by
  have FF:cZ s a a=[]:=gJ (by rw [lU L];omega);rw [number]
  cases hc:s[a]? with
  | none=>simp only;rw [FF,kM]
  | some c =>
   simp only;have ak:=(bp hc).1
   by_cases hd:ew c=true
   ·rw [ab hd];obtain ⟨e1,e2,e3⟩:=xr s f (if n<=2147483647 then n * 10+((c.toNat:Int) - 48) else n) (a+1) aq aq;rw [p8 hc aq e3,kM];have ih:=Ai s f (if n<=2147483647 then n * 10+((c.toNat:Int) - 48) else n) (a+1) aq aq
    by_cases hn:n<=2147483647
    ·rw [ab hn] at ih |-;rw [ab hn,Int.mul_comm 10 n];exact ih
    ·rw [M hn] at ih |-;rw [M hn];rw [<-ih]
     cases hw:cZ s (a+1) (number s f n (a+1)).2 with
     | nil=>rw [kM]
     | cons d r=>rw [kM,M hn]
   ·rw [M hd];simp only;rw [FF,kM]
theorem B3 (s:ae):∀ (f:Nat) (n:Int) (a:Nat),(number s f n a).2=Go.Sp.run s ew f a
 | 0,n,a=>rfl
 | f+1,n,a=>by
  rw [number,Go.Sp.run]
  cases hc:s[a]? with
  | none=>rfl
  | some c =>
   simp only;split
   ·exact B3 s f _ (a+1)
   ·rfl
theorem oJ {s x:ae} {a:Nat}:bM s a x=(decide (a+x.length<=s.length)&&(cZ s a (a+x.length)==x)):=rfl
theorem K7 {s:ae} {a:Nat} {c:UInt8} (hc:s[a]?=some c) (hs:small c=false):gx s a=(match bX.find? (bM s a) with | some x=>x | none=>[]):=by
 have ak:=(bp hc).1
 have I:∀ x∈bX,x.length=1\/x.length=2:=by decide
 have BJ:bX=bX.take 8++bX.drop 8:=(take_append_drop 8 bX).symm
 have jc:∀ x∈bX.take 8,x.length=2:=by decide
 have fR:∀ x∈bX.drop 8,x.length=1:=by decide
 have hw:∀ x∈words,∃ d r,x=d::r/\small d=true:=by
  intro x hx
  have:∀ x∈words,(match x with | d::_=>small d | []=>false)=true:=by decide
  have:=this x hx
  cases x with
  | nil=>cases this
  | cons d r=>exact ⟨d,r,rfl,this⟩
 have YV:∀ k,1<=k->a+k<=s.length->cZ s a (a+k)=c::cZ s (a+1) (a+k):=fun k L I=>p8 hc aq I
 have en:∀ k,1<=k->a+k<=s.length->(kJ (cZ s a (a+k))=true↔cZ s a (a+k)∈bX):=fun k L I=>by
  unfold kJ;rw [yX,nu,mem_append];refine ⟨fun h=>h.resolve_left fun hm=>?_,.inr⟩;obtain ⟨d,r,e1,e2⟩:=hw _ hm;rw [YV k L I] at e1
  cases e1;rw [hs] at e2;cases e2
 have Ko:∀ k,1<=k->(gY s a k=true↔a+k<=s.length/\cZ s a (a+k)∈bX):=fun k L=>by
  unfold gY;rw [hc];simp only [hs,Bool.not_false,Bool.and_true,aH,decide_eq_true_eq];exact ⟨fun ⟨p,q⟩=>⟨p,(en k L p).1 q⟩,fun ⟨p,q⟩=>⟨p,(en k L p).2 q⟩⟩
 have CP:∀ k,1<=k->k<=2->a+k<=s.length->cZ s a (a+k)∈bX->(cZ s a (a+k)).length=k:=fun k _ _ h _=>by rw [lU h];omega
 unfold gx
 by_cases t2:gY s a 2=true
 ·rw [ab t2];obtain ⟨p,q⟩:=(Ko 2 av).1 t2
  have hq:cZ s a (a+2)∈bX.take 8:=by
   rw [BJ] at q
   rcases oI q with h | h
   ·exact h
   ·have:=fR _ h;rw [lU p] at this;omega
  rw [BJ,List.find?_append]
  have:(bX.take 8).find? (bM s a)=some (cZ s a (a+2)):=by
   cases hf:(bX.take 8).find? (bM s a) with
   | none =>
    rw [find?_eq_none] at hf;have L:=hf _ hq;rw [oJ,lU p,show a+(a+2 - a)=a+2 by omega] at L;simp [p] at L
   | some x =>
    have L:=List.find?_some hf;have h3:=jc x (List.mem_of_find?_eq_some hf);rw [oJ,h3] at L;simp only [aH,beq_iff_eq] at L;rw [L.2]
  rw [this];rfl
 ·rw [M t2]
  have Za:(bX.take 8).find? (bM s a)=none:=by
   rw [find?_eq_none];intro x hx hb;rw [oJ,jc x hx] at hb;simp only [aH,beq_iff_eq,decide_eq_true_eq] at hb;exact t2 ((Ko 2 av).2 ⟨hb.1,by rw [hb.2];exact List.mem_of_mem_take hx⟩)
  rw [BJ,List.find?_append,Za]
  by_cases t1:gY s a 1=true
  ·rw [ab t1];obtain ⟨p,q⟩:=(Ko 1 av).1 t1
   have hq:cZ s a (a+1)∈bX.drop 8:=by
    rw [BJ] at q
    rcases oI q with h | h
    ·have:=jc _ h;rw [lU p] at this;omega
    ·exact h
   have:(bX.drop 8).find? (bM s a)=some (cZ s a (a+1)):=by
    cases hf:(bX.drop 8).find? (bM s a) with
    | none =>
     rw [find?_eq_none] at hf;have L:=hf _ hq;rw [oJ,lU p,show a+(a+1 - a)=a+1 by omega] at L;simp [p] at L
    | some x =>
     have L:=List.find?_some hf;have h3:=fR x (List.mem_of_find?_eq_some hf);rw [oJ,h3] at L;simp only [aH,beq_iff_eq] at L;rw [L.2]
   rw [this];rfl
  ·rw [M t1]
   have:(bX.drop 8).find? (bM s a)=none:=by
    rw [find?_eq_none];intro x hx hb;rw [oJ,fR x hx] at hb;simp only [aH,beq_iff_eq,decide_eq_true_eq] at hb;exact t1 ((Ko 1 av).2 ⟨hb.1,by rw [hb.2];exact List.mem_of_mem_drop hx⟩)
   rw [this];rfl
theorem Tb {s:ae} {a a':Nat} {c:UInt8} {t:Tok} (hc:s[a]?=some c) (h:jG s a c=(t,a')) (hk:t.kind=1\/t.kind=2\/t.kind=3) (hn:t.n<=2147483647):lk s a c=(t,a',0):=by
 have ak:=(bp hc).1;unfold jG at h;unfold lk
 by_cases hd:ew c=true
 ·rw [ab hd] at h |-;cases h;have e1:kF s a=(number s (s.length+1) 0 a).2:=(B3 s _ 0 a).symm;rw [e1,Ai s _ 0 a aq aq,M (by simpa using hn)]
 ·rw [M hd] at h |-
  by_cases hs:small c=true
  ·rw [ab hs] at h |-;cases h
   have FV:∃ r,fE s a=c::r\/fE s a=[]:=by
    cases hw:fE s a with
    | nil=>exact ⟨[],.inr rfl⟩
    | cons d r =>
     obtain ⟨e1,e2,e3⟩:=qh s ei (s.length+1) a aq aq
     have vT:ei c=true:=by simp [ei,hs]
     have zZ:a < fa s a:=by
      rcases Nat.lt_or_ge a (fa s a) with h | h
      ·exact h
      ·have he:Go.Sp.run s ei (s.length+1) a=a:=by unfold fa at h;omega
       have:=e1 c (by rw [he];exact hc);rw [vT] at this;cases this
     have L:fE s a=c::cZ s (a+1) (fa s a):=p8 hc zZ e3;rw [hw] at L;cases L;exact ⟨_,.inl rfl⟩
   have en:kJ (fE s a)=words.contains (fE s a):=by
    unfold kJ;rw [yX]
    have BG:∀ x∈bX,(match x with | d::_=>small d | []=>true)=false:=by decide
    obtain ⟨r,L⟩:=FV
    have:bX.contains (fE s a)=false:=by
     cases mQ:bX.contains (fE s a) with
     | false=>rfl
     | true =>
      have:=BG _ (nu.1 mQ)
      rcases L with L | L <;> rw [L] at this <;> simp only at this
      ·rw [hs] at this;cases this
      ·cases this
    rw [Bool.eq_iff_iff,nu,mem_append,<-nu (as:=bX),this];simp
   rw [en]
  ·rw [M hs] at h |-;rw [K7 hc (by simpa using hs)]
   cases hf:bX.find? (bM s a) with
   | none=>rw [hf] at h;cases h;simp at hk
   | some x =>
    rw [hf] at h;cases h;simp only;have hx:=List.mem_of_find?_eq_some hf
    have cr:x≠[]:=by
     intro h0;subst h0;revert hx;decide
    rw [M cr]
theorem Su {s:ae} {a b:Nat} {ts:List Tok} (h:Tz s a ts b):b=s.length->∀ (f:Nat) (acc:List Tok),s.length < f+a->nS s f a acc=some (acc++ts,0,0):=by
 induction h with
 | nil a =>
  intro hb f acc hf
  cases f with
  | zero=>omega
  | succ f =>
   rw [nS];have:s[a]?=none:=List.getElem?_eq_none_iff.2 aq;rw [this];simp
 | blank hc n5 h ih =>
  intro hb f acc hf
  cases f with
  | zero=>have:=(bp hc).1;omega
  | succ f =>
   rw [nS,hc];simp only;rw [ab n5];exact ih hb f acc aq
 | tok hc n5 hr ht hk hn ha h ih =>
  intro hb f acc hf
  cases f with
  | zero=>have:=(bp hc).1;omega
  | succ f =>
   rw [nS,hc];simp only;rw [M (by rw [n5];decide),M (by rw [hr];decide),Tb hc ht hk hn];simp only [ne_eq,not_true_eq_false,if_false];rw [ih hb f _ aq];simp
abbrev sf (ts:List Tok):Prop:=∀ t∈ts,Be t
def EF (t:T):Prop:=∃ a:E,a.ok=true/\er t=a.tree
def Lp (l:List T):Prop:=∃ es:List E,E.db es=true/\aS l=E.trees es
def Sf (ts r:List Tok) (n:Nat):Prop:=∃ pre,ts=pre++r/\n<=pre.length
theorem Sf.nil (ts:List Tok):Sf ts ts 0:=⟨[],rfl,aM _⟩
theorem Sf.one (t:Tok) (ts:List Tok):Sf (t::ts) ts 1:=⟨[t],rfl,aD _⟩
theorem Sf.trans {a b c:List Tok} {n m:Nat} (h:Sf a b n) (k:Sf b c m):Sf a c (n+m):=by
 obtain ⟨p,rfl,h⟩:=h;obtain ⟨q,rfl,k⟩:=k;exact ⟨p++q,by simp,by rw [aU];omega⟩
theorem Sf.le {a b:List Tok} {n m:Nat} (h:Sf a b n) (k:m<=n):Sf a b m:=by
 obtain ⟨p,rfl,h⟩:=h;exact ⟨p,rfl,by omega⟩
theorem Sf.ok {a b:List Tok} {n:Nat} (h:Sf a b n) (k:sf a):sf b:=by
 obtain ⟨p,rfl,h⟩:=h
 exact fun t ht=>k t (List.mem_append_right _ ht)
theorem Sf.aP {e:Int} {s:ae} {ts r:List Tok} (hs:s≠[]) (h:aP e s ts=.ok r):Sf ts r 1:=by
 obtain ⟨u,rfl,_⟩:=xn hs h;exact .one u r
theorem Sf.sign {s:ae} {ts:List Tok} (hs:s≠[]) (h:sign ts 0=s):Sf ts ts.tail 1:=by
 obtain ⟨u,L,_⟩:=uC hs h;rw [L];exact .one u _
theorem P5 {s:ae} (h:kJ s=false):words.contains s=false:=by
 unfold kJ at h;rw [yX] at h
 cases hc:words.contains s with
 | false=>rfl
 | true =>
  rw [nu] at hc
  have:(words++bX).contains s=true:=by rw [nu];exact List.mem_append_left _ hc
  rw [h] at this;cases this
theorem WI {t:Tok} (h:Be t) (hk:t.kind=2) (hl:t.s.length<=12):bt t.s=true:=by
 obtain ⟨L,I⟩:=h.name hk;unfold bt;rw [L,P5 I];simpa using hl
theorem Sf.name {e:Int} {s:ae} {ts r:List Tok} (h:name e ts=.ok (s,r)) (ho:sf ts):Sf ts r 1/\bt s=true:=by
 obtain ⟨u,rfl,L,rfl,h3⟩:=Gg h;exact ⟨.one u r,WI (ho u mem_cons_self) L h3⟩
theorem RR {s:ae} {k:Nat} (h:s∈levels.getD k []):eZ s=true:=by
 unfold eZ;rw [oY];rw [List.getD_eq_getElem?_getD] at h
 cases hk:levels[k]? with
 | none=>rw [hk] at h;simp at h
 | some l =>
  rw [hk] at h;exact ⟨l,bF hk,by rw [nu];exact h⟩
theorem jV (k a:Int) (s:ae) (l:List T):aQ (one k a s l)=aB l+1:=by unfold one;rw [aQ]
theorem Lp.snoc {l:List T} {t:T} (h:Lp l) (k:EF t):Lp (l++[t]):=by
 obtain ⟨es,L,I⟩:=h;obtain ⟨a,h3,h4⟩:=k
 have key:∀ es:List E,E.db es=true->E.db (es++[a])=true/\E.trees (es++[a])=E.trees es++[a.tree]:=by
  intro es
  induction es with
  | nil=>intro _;simp [E.db,E.trees,h3]
  | cons b es ih =>
   intro h;simp only [E.db,aH] at h;obtain ⟨k1,k2⟩:=ih h.2;simp only [cons_append,E.db,E.trees,k1,k2,h.1];simp
 obtain ⟨k1,k2⟩:=key es L;exact ⟨es++[a],k1,by rw [It,I,k2,aS,aS,h4]⟩
def vZ:pj->Nat
 | .loop _ _ out=>aQ out
 | _=>0
def jok:pj->Prop
 | .loop _ _ out=>EF out
 | _=>True
theorem SJ (e:Int):∀ f,(∀ j ts t r,sf ts->jok j->rd e f j ts=.ok (t,r)->EF t/\∃ n,Sf ts r n/\aQ t<=n+vZ j) /\
  (∀ d acc ts l r,sf ts->Lp acc->rd.args e f d acc ts=.ok (l,r)->Lp l/\∃ n,Sf ts r n/\aB l+1<=n+aB acc):=by
 intro f
 induction f with
 | zero=>exact ⟨fun j ts t r _ _ h=>by simp [rd] at h,fun d acc ts l r _ _ h=>by simp [rd.args] at h⟩
 | succ f ih =>
  obtain ⟨ih,yI⟩:=ih;refine ⟨fun j ts t r ho hj h=>?_,fun d acc ts l r ho hj h=>?_⟩
  ·cases j with
   | expr d =>
    rw [rd] at h;split at h
    ·cases h
    ·exact ih (.level 0 (d+1)) ts t r ho trivial h
   | level k d =>
    rw [rd] at h;split at h
    ·exact ih (.operand d) ts t r ho trivial h
    ·split at h
     ·cases h
     ·rename_i out jC hx;obtain ⟨L,n,I,h3⟩:=ih (.level (k+1) d) ts out jC ho trivial hx;obtain ⟨k1,m,k2,k3⟩:=ih (.loop k d out) jC t r (I.ok ho) L h;exact ⟨k1,n+m,I.trans k2,by simp only [vZ] at *;omega⟩
   | loop k d out =>
    cases ts with
    | nil=>rw [rd] at h;cases h;exact ⟨hj,0,.nil _,by simp only [vZ];omega⟩
    | cons t0 r0 =>
     rw [rd] at h;split at h
     ·rename_i hc;split at h
      ·cases h
      ·rename_i b r1 hx;obtain ⟨⟨b',h0,L⟩,n,I,h3⟩:=ih (.level (k+1) d) r0 b r1 (fun t ht=>ho t (di _ ht)) trivial hx;obtain ⟨o',h4,h5⟩:=hj;have h6:=(Sf.one t0 r0).trans I;obtain ⟨k1,m,k2,k3⟩:=ih (.loop k d (one 6 t0.at_ t0.s [out,b])) r1 t r (h6.ok ho) ⟨.bin t0.s o' b',by simp only [E.ok,RR hc.2,h4,h0];rfl,by rw [ed,aS,aS,aS,h5,L,E.tree]⟩ h;refine ⟨k1,_,h6.trans k2,?_⟩;simp only [vZ,jV,aB] at *;omega
     ·cases h;exact ⟨hj,0,.nil _,by simp only [vZ];omega⟩
   | operand d =>
    cases ts with
    | nil =>
     rw [rd] at h;split at h <;> cases h
    | cons t0 r0 =>
     rw [rd] at h;split at h
     ·cases h
     ·have Xy:sf r0:=fun t ht=>ho t (di _ ht)
      have vV:=Sf.one t0 r0;split at h
      ·split at h
       ·rename_i hu;split at h
        ·cases h
        ·rename_i a r1 hx;cases h;obtain ⟨⟨a',h0,L⟩,n,I,h3⟩:=ih (.operand (d+1)) r0 a r Xy trivial hx;refine ⟨⟨.un t0.s a',?_,by rw [ed,aS,aS,L,E.tree]⟩,_,vV.trans I,?_⟩
         ·simp only [E.ok,h0]
          rcases hu with hu | hu | hu <;> simp [hu]
         ·simp only [vZ,jV,aB] at *;omega
       ·split at h
        ·split at h
         ·cases h
         ·rename_i a r1 hx;split at h
          ·cases h
          ·rename_i r2 hm;cases h;obtain ⟨L,n,I,h3⟩:=ih (.expr (d+1)) r0 t r1 Xy trivial hx;exact ⟨L,_,(vV.trans I).trans (Sf.aP av hm),by simp only [vZ] at *;omega⟩
        ·cases h
      ·split at h
       ·rename_i hk;cases h;obtain ⟨k1,k2,k3⟩:=(ho t0 mem_cons_self).num hk;exact ⟨⟨.num t0.n,by simp only [E.ok];simp [k1,k2],by rw [er,aS,E.tree]⟩,1,vV,by simp only [vZ,aQ,aB];omega⟩
       ·split at h
        ·cases h
        ·rename_i s r1 eV;obtain ⟨k1,k2⟩:=Sf.name eV ho;split at h
         ·rename_i hb;have k3:=k1.trans (Sf.sign av hb);split at h
          ·cases h
          ·rename_i a r2 hx;split at h
           ·cases h
           ·rename_i r3 hm;cases h;obtain ⟨⟨a',h0,L⟩,n,I,h3⟩:=ih (.expr (d+1)) _ a r2 (k3.ok ho) trivial hx;refine ⟨⟨.at_ s a',by simp only [E.ok,k2,h0];rfl,by rw [ed,aS,aS,L,E.tree]⟩,_,(k3.trans I).trans (Sf.aP av hm),?_⟩;simp only [vZ,jV,aB] at *;omega
         ·split at h
          ·rename_i hb;have k3:=k1.trans (Sf.sign av hb);split at h
           ·cases h
           ·rename_i l r2 hx;cases h;obtain ⟨⟨es,h0,L⟩,n,I,h3⟩:=yI _ _ _ l r (k3.ok ho) ⟨[],rfl,rfl⟩ hx;refine ⟨⟨.call s es,by simp only [E.ok,k2,h0];rfl,by rw [ed,L,E.tree]⟩,_,k3.trans I,?_⟩;simp only [vZ,jV,aB] at *;omega
          ·cases h;exact ⟨⟨.name s,by simp only [E.ok,k2],by rw [ed,aS,E.tree]⟩,1,k1,by simp only [vZ,jV,aB];omega⟩
  ·rw [rd.args] at h;split at h
   ·rename_i hc;cases h;exact ⟨hj,1,Sf.sign av hc,by omega⟩
   ·split at h
    ·cases h
    ·rename_i y5 hx
     have h0:Sf ts y5 0:=by
      split at hx
      ·cases hx;exact .nil _
      ·exact (Sf.aP av hx).le (aM _)
     split at h
     ·cases h
     ·rename_i a wG hy;obtain ⟨L,n,I,h3⟩:=ih (.expr d) y5 a wG (h0.ok ho) trivial hy;have h4:=h0.trans I;obtain ⟨k1,m,k2,k3⟩:=yI _ (acc++[a]) wG l r (h4.ok ho) (hj.snoc L) h;refine ⟨k1,_,h4.trans k2,?_⟩;simp only [vZ,gZ,aB] at *;omega
theorem ye {e:Int} {d:Nat} {ts r:List Tok} {t:T} (ho:sf ts) (h:expr e d ts=.ok (t,r)):EF t/\Sf ts r (aQ t):=by
 obtain ⟨L,n,I,h3⟩:=(SJ e _).1 (.expr d) ts t r ho trivial h;exact ⟨L,I.le (by simpa [vZ] using h3)⟩
theorem xd {e:Int} {d:Nat} {a b:ae} {ts r:List Tok} {t:T} (ha:a≠[]) (hb:b≠[]) (ho:sf ts) (h:inner e d a b ts=.ok (t,r)):EF t/\Sf ts r (aQ t+2):=by
 unfold inner at h;split at h
 ·cases h
 ·rename_i y5 L;have k1:=Sf.aP ha L;split at h
  ·cases h
  ·rename_i t' wG I;obtain ⟨k2,k3⟩:=ye (k1.ok ho) I;split at h
   ·cases h
   ·rename_i ts3 h3;cases h;exact ⟨k2,((k1.trans k3).trans (Sf.aP hb h3)).le aq⟩
theorem Cc {e:Int} {d:Nat} {ts r:List Tok} {s:ae} {t:T} (ho:sf ts) (h:lO e d ts=.ok ((s,t),r)):bt s=true/\EF t/\Sf ts r (aQ t+3):=by
 unfold lO at h;split at h
 ·cases h
 ·rename_i s' y5 L;obtain ⟨k1,k2⟩:=Sf.name L ho;split at h
  ·cases h
  ·rename_i t' wG I;cases h;obtain ⟨k3,k4⟩:=xd av av (k1.ok ho) I;exact ⟨k2,k3,(k1.trans k4).le aq⟩
def SF (t:T):Prop:=∃ a:S,a.ok=true/\er t=a.tree
def Ly (l:List T):Prop:=∃ es:List S,S.db es=true/\aS l=S.trees es
def BF (t:T):Prop:=∃ l:List S,S.db l=true/\er t=bU l
theorem Ly.snoc {l:List T} {t:T} (h:Ly l) (k:SF t):Ly (l++[t]):=by
 obtain ⟨es,L,I⟩:=h;obtain ⟨a,h3,h4⟩:=k
 have key:∀ es:List S,S.db es=true->S.db (es++[a])=true/\S.trees (es++[a])=S.trees es++[a.tree]:=by
  intro es
  induction es with
  | nil=>intro _;simp [S.db,S.trees,h3]
  | cons b es ih =>
   intro h;simp only [S.db,aH] at h;obtain ⟨k1,k2⟩:=ih h.2;simp only [cons_append,S.db,S.trees,k1,k2,h.1];simp
 obtain ⟨k1,k2⟩:=key es L;exact ⟨es++[a],k1,by rw [It,I,k2,aS,aS,h4]⟩
theorem PY {t:T} (h:EF t) (hk:t.n.kind=3):∃ (s:ae) (a:T),t.kids=[a]/\t.n.s=s/\bt s=true/\EF a:=by
 obtain ⟨a,L,I⟩:=h;have h3:=congrArg (fun x=>x.n.kind) I;simp only [yb,hk] at h3
 cases a with
 | at_ s b =>
  simp only [E.ok,aH] at L
  have h4:t.n.s=s:=by have:=congrArg (fun x=>x.n.s) I;simp only [yb] at this;exact this
  have h5:aS t.kids=[b.tree]:=by rw [<-R5,I];rfl
  match hl:t.kids,h5 with
  | [x],h5 =>
   rw [aS,aS] at h5
   injection h5 with h6
   exact ⟨s,x,rfl,h4,L.1,b,L.2,h6⟩
  | [],h5=>rw [aS] at h5;cases h5
  | x::y::r,h5=>rw [aS,aS] at h5;injection h5 with h6 h7;cases h7
 | num n=>simp [E.tree,T.n] at h3
 | name n=>simp [E.tree,T.n] at h3
 | call s l=>simp [E.tree,T.n] at h3
 | un s a=>simp [E.tree,T.n] at h3
 | bin s a b=>simp [E.tree,T.n] at h3
theorem HT {e:Int} {d:Nat} {ts r:List Tok} {t:T} (ho:sf ts) (h:simple e d ts=.ok (t,r)):SF t/\Sf ts r (aQ t):=by
 unfold simple at h;split at h
 ·split at h <;> cases h
 ·rename_i t0 r0;split at h
  ·split at h
   ·cases h
   ·rename_i s a y5 L;cases h;obtain ⟨k1,⟨a',k2,k3⟩,k4⟩:=Cc ho L;exact ⟨⟨.set s a',by simp only [S.ok,k1,k2];rfl,by rw [ed,aS,aS,k3,S.tree]⟩,k4.le (by simp only [jV,aB];omega)⟩
  ·split at h
   ·cases h
   ·rename_i a y5 L;obtain ⟨k1,k2⟩:=ye ho L;split at h
    ·rename_i hc;split at h
     ·cases h
     ·rename_i v wG I;cases h;obtain ⟨⟨v',k3,k4⟩,k5⟩:=xd av av (k2.ok ho) I;obtain ⟨s,x,k6,k7,k8,x',k9,k10⟩:=PY k1 hc.1;have hz:=eA a;rw [k6] at hz;simp only [aB] at hz;rw [k6];refine ⟨⟨.put s x' v',by simp only [S.ok,k8,k9,k3];rfl,?_⟩,(k2.trans k5).le ?_⟩
      ·rw [ed,k7];simp only [take_succ_cons,take_zero,cons_append,nil_append,aS,k10,k4,S.tree]
      ·simp only [take_succ_cons,take_zero,cons_append,nil_append,jV,aB];omega
    ·split at h
     ·cases h
     ·rename_i wG I;cases h;obtain ⟨a',k3,k4⟩:=k1;exact ⟨⟨.do_ a',by simp only [S.ok,k3],by rw [ed,aS,aS,k4,S.tree]⟩,(k2.trans (Sf.aP av I)).le (by simp only [jV,aB];omega)⟩
theorem SM (e:Int):∀ f,(∀ d ts t r,sf ts->rs e f (.block d) ts=.ok (t,r)->BF t/\Sf ts r (aQ t))/\(∀ d ts t r,sf ts->rs e f (.stmt d) ts=.ok (t,r)->SF t/\Sf ts r (aQ t)) /\
  (∀ d acc ts l r,sf ts->Ly acc->rs.body e f d acc ts=.ok (l,r)->Ly l/\∃ n,Sf ts r n/\aB l+1<=n+aB acc):=by
 intro f
 induction f with
 | zero=>exact ⟨fun d ts t r _ h=>by simp [rs] at h,fun d ts t r _ h=>by simp [rs] at h,fun d acc ts l r _ _ h=>by simp [rs.body] at h⟩
 | succ f ih =>
  obtain ⟨XP,ihs,XQ⟩:=ih;refine ⟨fun d ts t r ho h=>?_,fun d ts t r ho h=>?_,fun d acc ts l r ho hj h=>?_⟩
  ·rw [rs] at h;split at h
   ·cases h
   ·split at h
    ·cases h
    ·rename_i r1 L;have k1:=Sf.aP av L;split at h
     ·cases h
     ·rename_i l r2 I;cases h;obtain ⟨⟨es,k2,k3⟩,n,k4,k5⟩:=XQ _ [] r1 l r (k1.ok ho) ⟨[],rfl,rfl⟩ I;exact ⟨⟨es,k2,by rw [ed,k3,bU]⟩,(k1.trans k4).le (by simp only [jV,aB] at *;omega)⟩
  ·rw [rs] at h;split at h
   ·cases h
   ·simp only at h;split at h
    ·rename_i hs;have k0:=Sf.sign av hs;split at h
     ·cases h
     ·rename_i s a y5 L;cases h;obtain ⟨k1,⟨a',k2,k3⟩,k4⟩:=Cc (k0.ok ho) L;exact ⟨⟨.var s a',by simp only [S.ok,k1,k2];rfl,by rw [ed,aS,aS,k3,S.tree]⟩,(k0.trans k4).le (by simp only [jV,aB];omega)⟩
    ·split at h
     ·rename_i hs
      have k0:Sf ts ts.tail 1:=by
       rcases hs with hs | hs
       ·exact Sf.sign av hs
       ·exact Sf.sign av hs
      split at h
      ·cases h
      ·rename_i c r1 L;obtain ⟨⟨c',k1,k2⟩,k3⟩:=xd av av (k0.ok ho) L;have k4:=k0.trans k3;split at h
       ·cases h
       ·rename_i b r2 I;obtain ⟨⟨lb,k5,k6⟩,k7⟩:=XP _ _ b r2 (k4.ok ho) I;have k8:=k4.trans k7;split at h
        ·split at h
         ·rename_i eI;have k9:=k8.trans (Sf.sign av eI);split at h
          ·cases h
          ·rename_i b2 r3 h3;cases h;obtain ⟨⟨lb2,j5,j6⟩,j7⟩:=XP _ _ b2 r (k9.ok ho) h3;refine ⟨⟨.if2 c' lb lb2,by simp only [S.ok,k1,k5,j5];rfl,?_⟩,(k9.trans j7).le (by simp only [jV,aB];omega)⟩;rw [ed,aS,aS,aS,aS,k2,k6,j6,S.tree,bU,bU]
         ·cases h;refine ⟨⟨.if1 c' lb,by simp only [S.ok,k1,k5];rfl,?_⟩,k8.le (by simp only [jV,aB];omega)⟩;rw [ed,aS,aS,aS,k2,k6,S.tree,bU]
        ·cases h;refine ⟨⟨.while_ c' lb,by simp only [S.ok,k1,k5];rfl,?_⟩,k8.le (by simp only [jV,aB];omega)⟩;rw [ed,aS,aS,aS,k2,k6,S.tree,bU]
     ·split at h
      ·rename_i hs;have k0:=Sf.sign av hs;split at h
       ·cases h
       ·rename_i a y5 L;obtain ⟨⟨a',k1,k2⟩,k3⟩:=ye (k0.ok ho) L;split at h
        ·cases h
        ·rename_i wG I;cases h;exact ⟨⟨.ret a',by simp only [S.ok,k1],by rw [ed,aS,aS,k2,S.tree]⟩,((k0.trans k3).trans (Sf.aP av I)).le (by simp only [jV,aB];omega)⟩
      ·exact HT ho h
  ·rw [rs.body] at h;split at h
   ·rename_i hc;cases h;exact ⟨hj,1,Sf.sign av hc,by omega⟩
   ·split at h
    ·cases h
    ·rename_i a y5 L;obtain ⟨k1,k2⟩:=ihs _ ts a y5 ho L;obtain ⟨k3,m,k4,k5⟩:=XQ _ (acc++[a]) y5 l r (k2.ok ho) (hj.snoc k1) h;refine ⟨k3,_,k2.trans k4,?_⟩;simp only [gZ,aB] at *;omega
theorem JW {e:Int} {d:Nat} {ts r:List Tok} {t:T} (ho:sf ts) (h:block e d ts=.ok (t,r)):BF t/\Sf ts r (aQ t):=(SM e _).1 _ ts t r ho h
end Go.Im
namespace Go.Sp
open Go.Xp
def eF (x:ae) (l:List K):Prop:=∀ pre post:ae,∃ ts,ts.map kf=l/\Tz (pre++(x++post)) pre.length ts (pre.length+x.length)
def il (x:ae) (l:List K):Prop:=∀ pre post:ae,Sep post->∃ ts,ts.map kf=l/\Tz (pre++(x++post)) pre.length ts (pre.length+x.length)
theorem eF.s {x:ae} {l:List K} (h:eF x l):il x l:=fun pre post _=>h pre post
theorem eF.app {x y:ae} {l m:List K} (h:eF x l) (k:eF y m):eF (x++y) (l++m):=by
 intro pre post;obtain ⟨ts,L,I⟩:=h pre (y++post);obtain ⟨us,h3,h4⟩:=k (pre++x) post;refine ⟨ts++us,by simp [L,h3],?_⟩;rw [cK] at h4 |-;rw [aU] at h4 |-;rw [<-fP];exact I.app h4
theorem eF.apps {x y:ae} {l m:List K} (h:eF x l) (k:il y m):il (x++y) (l++m):=by
 intro pre post hp;obtain ⟨ts,L,I⟩:=h pre (y++post);obtain ⟨us,h3,h4⟩:=k (pre++x) post hp;refine ⟨ts++us,by simp [L,h3],?_⟩;rw [cK] at h4 |-;rw [aU] at h4 |-;rw [<-fP];exact I.app h4
theorem il.EY {x y:ae} {l m:List K} (h:il x l) (k:eF y m) (hs:∀ post,Sep (y++post)):eF (x++y) (l++m):=by
 intro pre post;obtain ⟨ts,L,I⟩:=h pre (y++post) (hs post);obtain ⟨us,h3,h4⟩:=k (pre++x) post;refine ⟨ts++us,by simp [L,h3],?_⟩;rw [cK] at h4 |-;rw [aU] at h4 |-;rw [<-fP];exact I.app h4
theorem eF.nil:eF [] []:=fun pre post=>⟨[],rfl,.nil _⟩
theorem yV {c:UInt8} {x:ae} (h:c∈Dc):∀ post,Sep (c::x++post):=fun post d hd=>by cases hd;exact h
theorem tX {pre x:ae}:(pre++x).drop pre.length=x:=drop_left
theorem Tz.one {s:ae} {a a':Nat} {c:UInt8} {t:Tok} (hc:s[a]?=some c) (hb:eb c=false) (hr:bM s a [47,42]=false) (ht:jG s a c=(t,a')) (hk:t.kind=1\/t.kind=2\/t.kind=3) (hn:t.n<=2147483647) (ha:a < a'):Tz s a [t] a' :=
 .tok hc hb hr ht hk hn ha (.nil _)
theorem yM {c:UInt8} (h:eb c=true):eF [c] []:=by
 intro pre post;have hd:(pre++([c]++post)).drop pre.length=c::post:=tX;obtain ⟨L,_,_⟩:=nM hd;exact ⟨[],rfl,.blank L h (.nil _)⟩
theorem ni {c:UInt8} (hm:c∈[40,41,91,93,44,59,123,125]):eF [c] [kS [c]]:=by
 intro pre post;have hd:(pre++([c]++post)).drop pre.length=c::post:=tX;obtain ⟨L,_,h4⟩:=nM hd;obtain ⟨I,h3,h5⟩:=O6 (Nat.le_of_lt h4) hd hm;exact ⟨[_],rfl,Tz.one L h3 h5 I (by simp) (by simp) (by simp)⟩
theorem AW {w:ae} (hm:w∈bX):il w [kS w]:=by
 intro pre post hp;have hd:(pre++(w++post)).drop pre.length=w++post:=tX
 have cr:w≠[]:=by rintro rfl;revert hm;decide
 obtain ⟨c,r,hw⟩:=List.exists_cons_of_ne_nil cr;have dH:=hd;rw [hw,cons_append] at dH;obtain ⟨L,_,h4⟩:=nM dH;rw [<-cons_append,<-hw] at L h4;obtain ⟨I,h3,h5⟩:=P7 (Nat.le_of_lt h4) hd hw hm hp
 have:0 < w.length:=by rw [hw];simp
 exact ⟨[_],rfl,Tz.one L h3 h5 I (by simp) (by simp) aq⟩
theorem HU {c:UInt8} (h:small c=true):eb c=false/\c≠47:=by
 simp only [small,aH] at h;have L:=nw h.1;refine ⟨?_,fun h0=>?_⟩
 ·simp only [eb,Bool.or_eq_false_iff,beq_eq_false_iff_ne];omega
 ·subst h0;revert L;decide
theorem D5 {s r:ae} {a:Nat} {c:UInt8} (h:s.drop a=c::r) (hc:c≠47):bM s a [47,42]=false:=by
 obtain ⟨_,_,h4⟩:=nM h;rw [vo h (Nat.le_of_lt h4)];simp only [List.isPrefixOf]
 have:((47:UInt8)==c)=false:=by rw [beq_eq_false_iff_ne];exact fun h=>hc h.symm
 rw [this,Bool.false_and]
theorem F8 {w:ae} (hw:word w=true):il w [if words.contains w then kS w else kN w]:=by
 intro pre post hp;have hd:(pre++(w++post)).drop pre.length=w++post:=tX;simp only [word,aH,gK] at hw
 match w,hw,hd with
 | [],hw,_=>simp at hw
 | c::r,hw,hd =>
  obtain ⟨aY,hs⟩:=hw;have dH:=hd;rw [cons_append] at dH;obtain ⟨L,_,h4⟩:=nM dH;obtain ⟨h3,h5⟩:=HU hs;have ht:=Qs (Nat.le_of_lt h4) hd rfl hs aY hp.ei;refine ⟨[_],?_,Tz.one L h3 (D5 dH h5) ht ?_ (by simp) (by simp)⟩
  ·simp only [List.map_cons,List.map_nil,kf,kS,kN];split <;> rfl
  ·simp only;split <;> simp
theorem kL {w:ae} (hw:bt w=true):il w [kN w]:=by
 simp only [bt,aH,Bool.not_eq_true'] at hw;have:=F8 hw.1.1;rw [M (by rw [hw.2];decide)] at this;exact this
theorem Ng {w:ae} (hw:w∈words):il w [kS w]:=by
 have L:∀ w∈words,word w=true:=by decide
 have:=F8 (L w hw);rw [ab (by simpa using hw)] at this;exact this
theorem I7 {n:Nat} (hn:n<=2147483647):il (c6 n) [kI n]:=by
 intro pre post hp;have hd:(pre++(c6 n++post)).drop pre.length=c6 n++post:=tX;obtain ⟨L,I,h3⟩:=Il n;obtain ⟨c,r,hw⟩:=List.exists_cons_of_ne_nil h3;have dH:=hd;rw [hw,cons_append] at dH;obtain ⟨h4,_,h5⟩:=nM dH;rw [<-cons_append,<-hw] at h4 h5;have hc:ew c=true:=L c (by rw [hw];exact mem_cons_self)
 have DO:eb c=false/\c≠47:=by
  simp only [ew,aH] at hc;have L:=nw hc.1;refine ⟨?_,fun h0=>?_⟩
  ·simp only [eb,Bool.or_eq_false_iff,beq_eq_false_iff_ne];omega
  ·subst h0;revert L;decide
 have ht:=SD (Nat.le_of_lt h5) hd hw hn hp.ew
 have:0 < (c6 n).length:=by rw [hw];simp
 refine ⟨[_],rfl,Tz.one h4 DO.1 ?_ ht (by simp) (by simpa using by omega) aq⟩;have Bz:=dH;rw [<-cons_append,<-hw] at Bz;rw [hw] at Bz |-;exact D5 Bz DO.2
theorem U2 {s:ae} (h:eZ s=true):s∈bX:=by
 have hm:s∈levels.flatten:=by
  unfold eZ at h;rw [oY] at h;obtain ⟨l,hl,hc⟩:=h;exact List.mem_flatten.2 ⟨l,hl,by simpa using hc⟩
 have key:∀ s∈levels.flatten,s∈bX:=by decide
 exact key s hm
theorem K9:eF [32] []:=yM av
theorem il.then {x:ae} {l:List K} (h:il x l) {c:UInt8} (hm:c∈[40,41,91,93,44,59,123,125]):eF (x++[c]) (l++[kS [c]]) :=
 h.EY (ni hm) (yV (by revert hm;unfold Dc;simp only [List.mem_cons,List.not_mem_nil,or_false];rintro (h | h | h | h | h | h | h | h) <;> simp [h]))
theorem il.sp {x:ae} {l:List K} (h:il x l):eF (x++[32]) l:=by
 have:=h.EY K9 (yV av);rw [cq] at this;exact this
theorem il.eq {x:ae} {l l':List K} (h:il x l) (e:l=l'):il x l':=e ▸ h
theorem eF.eq {x:ae} {l l':List K} (h:eF x l) (e:l=l'):eF x l':=e ▸ h
theorem CW {lv k:Nat} {x:ae} {l:List K} (h:il x l):il (qZ lv k x) (brk lv k l):=by
 unfold qZ brk;split
 ·have:=((ni (c:=40) av).apps h).then (c:=41) av;exact this.s.eq (by simp)
 ·exact h
mutual
theorem pU:∀ a:E,a.ok=true->il a.bu a.tk
 | .num n,h=>by
  simp only [E.ok,aH] at h;have L:=nw h.1;have I:=nw h.2;have:=I7 (n:=n.toNat) aq;rw [E.bu,E.tk];rw [Int.toNat_of_nonneg L] at this;exact this
 | .name s,h=>by rw [E.bu,E.tk];exact kL h
 | .at_ s a,h=>by
  simp only [E.ok,aH] at h;rw [E.bu,E.tk];exact ((((kL h.1).then (c:=91) av).apps (pU a h.2)).then (c:=93) av).s.eq (by simp)
 | .call s l,h=>by
  simp only [E.ok,aH] at h;rw [E.bu,E.tk];exact ((((kL h.1).then (c:=40) av).apps (Ww l h.2)).then (c:=41) av).s.eq (by simp)
 | .un s a,h=>by
  simp only [E.ok,aH,Bool.or_eq_true,beq_iff_eq] at h;rw [E.bu,E.tk]
  have hs:s∈bX:=by rcases h.1 with (h | h) | h <;> (rw [h];decide)
  exact ((AW hs).sp.apps (CW (pU a h.2))).eq (by simp)
 | .bin s a b,h=>by
  simp only [E.ok,aH] at h;rw [E.bu,E.tk];exact ((((CW (pU a h.1.2)).sp.apps (AW (U2 h.1.1))).sp).apps (CW (pU b h.2))).eq (by simp)
theorem Ww:∀ l:List E,E.db l=true->il (bQ (E.da l)) (E.nJ l)
 | [],_=>eF.nil.s
 | a::l,h=>by
  simp only [E.db,aH] at h;rw [E.da,E.nJ,bQ];exact Rj l h.2 _ _ (pU a h.1)
theorem Rj:∀ l:List E,E.db l=true->∀ x m,il x m->il (x++(E.da l).flatMap fun y=>44::32::y) (m++E.qM l)
 | [],_,x,m,hx=>by rw [E.da,E.qM];simpa using hx
 | a::l,h,x,m,hx=>by
  simp only [E.db,aH] at h;have L:=((hx.then (c:=44) av).app K9).apps (pU a h.1);have I:=Rj l h.2 _ _ L;rw [E.da,E.qM,flatMap_cons]
  have e1:x++((44::32::a.bu)++(E.da l).flatMap fun y=>44::32::y)=(x++[44]++[32]++a.bu)++(E.da l).flatMap fun y=>44::32::y:=by simp
  rw [e1];exact I.eq (by simp)
end
theorem il.set {x:ae} {l:List K} (h:il x l):eF (x++[32,61,32]) (l++[kS [61]]):=by
 have:=(h.sp.apps (AW (w:=[61]) av)).sp;simpa using this
theorem uZ {w:ae} (hw:w∈words):eF (w++[32]) [kS w]:=(Ng hw).sp
mutual
theorem Wx:∀ s:S,s.ok=true->eF (s.bu E.bu) s.tk
 | .set s a,h=>by
  simp only [S.ok,aH] at h;rw [S.bu,S.tk];exact (((kL h.1).set.apps (pU a h.2)).then (c:=59) av).eq (by simp)
 | .put s a b,h=>by
  simp only [S.ok,aH] at h;rw [S.bu,S.tk];have L:=((((kL h.1).then (c:=91) av).apps (pU a h.2.1)).then (c:=93) av).s.set;have I:=(L.apps (pU b h.2.2)).then (c:=59) av
  have e:s++[91]++a.bu++[93,32,61,32]++b.bu++[59]=s++[91]++a.bu++[93]++[32,61,32]++b.bu++[59]:=by simp
  rw [e];exact I.eq (by simp)
 | .if1 c b,h=>by
  simp only [S.ok,aH] at h;rw [S.bu,S.tk];have L:=((((uZ (w:=[105,102]) av).app (ni (c:=40) av)).apps (pU c h.1)).then (c:=41) av).s.sp;have I:=L.app (lexB b h.2)
  have e:[105,102,32,40]++c.bu++[41,32]++(S.da E.bu [123,32] b++[125])=[105,102]++[32]++[40]++c.bu++[41]++[32]++(S.da E.bu [123,32] b++[125]):=by simp
  rw [e];exact I.eq (by simp [eo])
 | .if2 c b b2,h=>by
  simp only [S.ok,aH] at h;rw [S.bu,S.tk];have L:=((((uZ (w:=[105,102]) av).app (ni (c:=40) av)).apps (pU c h.1)).then (c:=41) av).s.sp;have I:=L.app (lexB b h.2.1);have h3:=((I.s.sp.apps (Ng (w:=[101,108,115,101]) av)).sp).app (lexB b2 h.2.2)
  have e:[105,102,32,40]++c.bu++[41,32]++(S.da E.bu [123,32] b++[125])++[32,101,108,115,101,32]++(S.da E.bu [123,32] b2++[125])=[105,102]++[32]++[40]++c.bu++[41]++[32]++(S.da E.bu [123,32] b++[125])++[32]++[101,108,115,101]++[32]++(S.da E.bu [123,32] b2++[125]):=by simp
  rw [e];exact h3.eq (by simp [eo,eL])
 | .while_ c b,h=>by
  simp only [S.ok,aH] at h;rw [S.bu,S.tk];have L:=((((uZ (w:=[119,104,105,108,101]) av).app (ni (c:=40) av)).apps (pU c h.1)).then (c:=41) av).s.sp;have I:=L.app (lexB b h.2)
  have e:[119,104,105,108,101,32,40]++c.bu++[41,32]++(S.da E.bu [123,32] b++[125])=[119,104,105,108,101]++[32]++[40]++c.bu++[41]++[32]++(S.da E.bu [123,32] b++[125]):=by simp
  rw [e];exact I.eq (by simp [dQ])
 | .ret a,h=>by
  simp only [S.ok] at h;rw [S.bu,S.tk];have L:=((uZ (w:=[114,101,116,117,114,110]) av).apps (pU a h)).then (c:=59) av;exact L.eq (by simp [dz])
 | .do_ a,h=>by
  simp only [S.ok] at h;rw [S.bu,S.tk];exact (pU a h).then (c:=59) av
 | .var s a,h=>by
  simp only [S.ok,aH] at h;rw [S.bu,S.tk];have L:=((((uZ (w:=[118,97,114]) av).apps (kL h.1)).set).apps (pU a h.2)).then (c:=59) av;exact L.eq (by simp [ia])
theorem lexB:∀ l:List S,S.db l=true->eF (S.da E.bu [123,32] l++[125]) (kS [123]::(S.nJ l++[kS [125]]))
 | l,h=>by
  have h0:eF [123,32] [kS [123]]:=by
   have:=(ni (c:=123) av).s.sp;simpa using this
  exact ((Rk l h _ _ h0).s.then (c:=125) av).eq (by simp)
theorem Rk:∀ l:List S,S.db l=true->∀ acc m,eF acc m->eF (S.da E.bu acc l) (m++S.nJ l)
 | [],_,acc,m,h=>by rw [S.da,S.nJ,cq];exact h
 | a::l,ho,acc,m,h=>by
  simp only [S.db,aH] at ho;rw [S.da,S.nJ];have L:=(h.app (Wx a ho.1)).s.sp;exact (Rk l ho.2 _ _ L).eq (by simp)
end
theorem eF.all {x:ae} {l:List K} (h:eF x l):∃ ts,ts.map kf=l/\Tz x 0 ts x.length:=by
 obtain ⟨ts,L,I⟩:=h [] [];exact ⟨ts,L,by simpa using I⟩
theorem I5 {l:List S} (h:S.db l=true):eF (fA E.bu l) (JV l):=lexB l h
end Go.Sp
namespace Go.Im
open Go.Xp Go.Sp
def Mj (s:ae):List K:=[kS mi,kN s,kS [59]]
def H4 (a:Ar):List K:=[kS mi,kN a.name,kS [91],kI a.size,kS [93],kS [59]]
def vz:List ae->List K
 | []=>[]
 | s::r=>kS [44]::kN s::vz r
def Gp:List ae->List K
 | []=>[]
 | s::r=>kN s::vz r
def Iw (x:Fn × List S):List K:=kS nH::kN x.1.name::kS [40]::(Gp x.1.params++kS [41]::JV x.2)
def kc (x:Fn × List S):ae:=((((([102,117,110,99,32]++x.1.name)++[40])++bQ x.1.params)++[41,32])++fA E.bu x.2)++[10]
theorem I6:eF [59,10] [kS [59]]:=(ni (c:=59) av).app (yM (c:=10) av)
theorem WA {s:ae} (h:bt s=true):eF (g1 s) (Mj s) :=
 ((uZ (w:=mi) av).apps (kL h)).EY I6 (yV (c:=59) (x:=[10]) av)
theorem Wy {a:Ar} (h:pd a=true):eF (a1 a) (H4 a):=by
 unfold pd at h;simp only [aH,Bool.not_eq_true',decide_eq_false_iff_not] at h;obtain ⟨⟨L,I⟩,h3⟩:=h
 have hz:oP a.size=c6 a.size.toNat:=by unfold oP;rw [M I]
 have hk:kI a.size=kI ((a.size.toNat:Nat):Int):=by rw [Int.toNat_of_nonneg aq]
 have x1:=((uZ (w:=mi) av).apps (kL L)).then (c:=91) av;have x2:=x1.apps (I7 (n:=a.size.toNat) aq);have x3:=x2.EY ((ni (c:=93) av).app I6) (yV (c:=93) (x:=[59,10]) av);unfold a1 H4;rw [hz,hk];exact x3
theorem Nh:∀ (ps:List ae),cQ ps=true->∀ x m,il x m->il (x++ps.flatMap fun y=>44::32::y) (m++vz ps)
 | [],_,x,m,h=>by rw [List.flatMap_nil,cq,vz,cq];exact h
 | s::r,hp,x,m,h=>by
  unfold cQ at hp;rw [all_cons,aH] at hp;have L:=(h.then (c:=44) av).app K9;have I:=L.apps (kL hp.1);have h3:=Nh r hp.2 _ _ I;rw [flatMap_cons,vz];refine il.eq (cast (congrArg (fun z=>il z _) ?_) h3) ?_
  ·simp
  ·simp
theorem WB {ps:List ae} (h:cQ ps=true):il (bQ ps) (Gp ps):=by
 match ps,h with
 | [],_=>exact eF.nil.s
 | s::r,h =>
  unfold cQ at h;rw [all_cons,aH] at h;exact Nh r h.2 s [kN s] (kL h.1)
theorem Wz {x:Fn × List S} (L:bt x.1.name=true) (I:cQ x.1.params=true) (h3:S.db x.2=true):eF (kc x) (Iw x):=by
 have x1:=((uZ (w:=nH) av).apps (kL L)).then (c:=40) av;have x2:=(x1.apps (WB I)).EY ((ni (c:=41) av).app K9) (yV (c:=41) (x:=[32]) av);have x3:=(x2.app (I5 h3)).app (yM (c:=10) av);refine eF.eq x3 ?_;simp [Iw]
theorem zt {α:Type} {f:α->ae} {k:α->List K}:∀ (l:List α),(∀ x∈l,eF (f x) (k x))->∀ acc m,eF acc m->eF (dG f acc l) (m++l.flatMap k)
 | [],_,acc,m,h=>by rw [dG,List.flatMap_nil,cq];exact h
 | x::l,hl,acc,m,h=>by
  rw [dG,flatMap_cons,<-cK];exact zt l (fun y hy=>hl y (di _ hy)) _ _ (h.app (hl x mem_cons_self))
theorem LO {inl:List ae->Nat->ae}:∀ (fns:List Fn) (l:List T) (ls:List (List S)) (acc:ae),ls.length=l.length->(∀ (i:Nat) t b,l[i]?=some t->ls[i]?=some b->nY de inl 0 t=fA E.bu b) ->
  dG (cX de inl) acc (fns.zip l)=dG kc acc (fns.zip ls)
 | [],l,ls,acc,_,_=>by simp [dG]
 | f::r,[],[],acc,_,_=>by simp [dG]
 | f::r,t::l,b::ls,acc,hl,h=>by
  have h0:=h 0 t b rfl rfl;rw [zip_cons_cons,zip_cons_cons,dG,dG,LO r l ls _ (by simpa using hl) fun i t' b' L I=>h (i+1) t' b' (by simpa using L) (by simpa using I)];simp only [cX,kc,h0]
 | f::r,[],b::ls,acc,hl,_=>by simp at hl
 | f::r,t::l,[],acc,hl,_=>by simp at hl
section
variable {p q:RS} {ts r rest:List Tok} {u:Tok} {s:ae}
theorem qO (h:On p (u::r)):tok p 0=u:=by rw [On.tok h];rfl
theorem AR (h:On p (u::r)) (hk:kf u=kS s):is p 0 s=true:=by
 obtain ⟨L,I⟩:=eC hk;unfold is;rw [qO h,L,I];simp
theorem Kr (h:On p (u::r)) {k:K} (hk:kf u=k) (hn:k.1=3->k.2.2≠s):is p 0 s=false:=by
 unfold is;rw [qO h];subst hk
 by_cases h3:u.kind=3
 ·have:=hn h3;simp only [kf] at this;simp [h3,this]
 ·simp [h3]
theorem uI (h:On p (u::r)) (hk:kf u=kS s):want p s=p.next:=by unfold want;rw [ab h.code,ab (AR h hk)]
theorem yQ (h:On p (u::r)) (hk:kf u=kN s) (hl:bt s=true):bD p=p.next:=by
 obtain ⟨L,I⟩:=qE hk;have:=nj hl;unfold bD;rw [ab h.code,qO h,ab L,M (by rw [I];omega)]
theorem nx (h:On p (u::r)):On p.next r:=h.next.1
theorem eQ (h:On p (u::r)):p.next.l=p.l/\p.next.e=p.e:=⟨h.next.2.1,h.next.2.2⟩
theorem Zv (h:On p (u::r)):p.i < p.l.length:=by
 have:=congrArg List.length h.rest;rw [iK,length_cons] at this;omega
theorem U6 (h:On p []):¬ p.i < p.l.length:=by
 have:=congrArg List.length h.rest;rw [iK,length_nil] at this;omega
theorem IV {aaL f:Nat} {st:PS} (h:p.code≠0) (hg:1<=aaL):n8 aaL f p st=some (p,st):=by
 obtain ⟨aaL,rfl⟩:∃ g',aaL=g'+1:=⟨aaL - 1,by omega⟩;rw [n8,M (fun hc=>h hc.1)]
theorem zq {f:Nat} {acc:List ae} (h:p.code≠0) (hg:1<=f):pF f acc p=some (acc,p):=by
 obtain ⟨f,rfl⟩:∃ g',f=g'+1:=⟨f - 1,by omega⟩;rw [pF,M (fun hc=>h hc.1),gm h]
end
theorem Zq {f:Nat} {p:RS} {st:PS} {ts rest:List Tok} {s:ae} (hp:On p (ts++rest)) (ht:ts.map kf=Mj s) (hs:bt s=true) :
  ∃ q,iW f p st=some (q,{ st with globals:=st.globals++[s] })/\bS p q (.ok rest):=by
 obtain ⟨u,r,rfl,L,ht⟩:=map_cons ht;obtain ⟨v,r,rfl,I,ht⟩:=map_cons ht;obtain ⟨w,rfl,h3⟩:=iO ht;simp only [cons_append,nil_append] at hp;have p1:=nx hp;have p2:=nx p1;have p3:=nx p2;refine ⟨p.next.next.next,?_,p3,by rw [(eQ p2).1,(eQ p1).1,(eQ hp).1],by rw [(eQ p2).2,(eQ p1).2,(eQ hp).2]⟩;unfold iW;rw [ab (AR hp L),yQ p1 I hs,Kr p2 h3 av,M (by rintro ⟨_,h⟩;cases h),uI p2 h3,qO p1,(qE I).2]
theorem Zo {f:Nat} {p:RS} {st:PS} {ts rest:List Tok} {a:Ar} (hp:On p (ts++rest)) (ht:ts.map kf=H4 a) (hs:bt a.name=true) :
  ∃ q,iW f p st=some (q,{ st with arrays:=st.arrays++[a] })/\bS p q (.ok rest):=by
 obtain ⟨u,r,rfl,L,ht⟩:=map_cons ht;obtain ⟨v,r,rfl,I,ht⟩:=map_cons ht;obtain ⟨w,r,rfl,h3,ht⟩:=map_cons ht;obtain ⟨x,r,rfl,h4,ht⟩:=map_cons ht;obtain ⟨y,r,rfl,h5,ht⟩:=map_cons ht;obtain ⟨z,rfl,h6⟩:=iO ht;simp only [cons_append,nil_append] at hp;have p1:=nx hp;have p2:=nx p1;have p3:=nx p2;have p4:=nx p3;have p5:=nx p4;have p6:=nx p5;refine ⟨p.next.next.next.next.next.next,?_,p6,by rw [(eQ p5).1,(eQ p4).1,(eQ p3).1,(eQ p2).1,(eQ p1).1,(eQ hp).1],by rw [(eQ p5).2,(eQ p4).2,(eQ p3).2,(eQ p2).2,(eQ p1).2,(eQ hp).2]⟩;unfold iW;rw [ab (AR hp L),yQ p1 I hs,ab ⟨p2.code,AR p2 h3⟩,qO p3,ab (Ps h4).1,uI p4 h5,uI p5 h6,qO p1,(qE I).2,(Ps h4).2]
theorem Rc {rest:List Tok} {u:Tok} (hu:kf u=kS [41]):∀ (ps:List ae) (f:Nat) (acc:List ae) (p:RS) (ts:List Tok),ps.length < f->acc≠[]->cQ ps=true->On p (ts++u::rest)->ts.map kf=vz ps ->
  ∃ q,pF f acc p=some (acc++ps,q)/\bS p q (.ok rest)
 | [],f,acc,p,ts,hf,ha,_,hp,ht=>by
  obtain ⟨f,rfl⟩:∃ g',f=g'+1:=⟨f - 1,by omega⟩
  have:ts=[]:=by simpa [vz] using ht
  subst this;rw [nil_append] at hp;refine ⟨p.next,?_,nx hp,eQ hp⟩;rw [pF,M (by rw [AR hp hu];rintro ⟨_,h⟩;cases h),uI hp hu,cq]
 | s::ps,f,acc,p,ts,hf,ha,hn,hp,ht=>by
  obtain ⟨f,rfl⟩:∃ g',f=g'+1:=⟨f - 1,by omega⟩;rw [vz] at ht;obtain ⟨v,r,rfl,L,ht⟩:=map_cons ht;obtain ⟨w,r,rfl,I,ht⟩:=map_cons ht;unfold cQ at hn;rw [all_cons,aH] at hn;simp only [cons_append] at hp;have p1:=nx hp;have p2:=nx p1
  have hal:acc.length≠0:=fun h=>ha (gJ h)
  rw [length_cons] at hf
  obtain ⟨q,h3,h4⟩:=Rc hu ps f (acc++[s]) p.next.next r aq (by simp) hn.2 p2 ht
  refine ⟨q,?_,h4.1,by rw [h4.2.1,(eQ p1).1,(eQ hp).1],by rw [h4.2.2,(eQ p1).2,(eQ hp).2]⟩;rw [pF,ab ⟨hp.code,Kr hp L av⟩,M hal,uI hp L,qO p1,(qE I).2,yQ p1 I hn.1,h3];simp
theorem Wn {rest:List Tok} {u:Tok} (hu:kf u=kS [41]) (ps:List ae) (f:Nat) (p:RS) (ts:List Tok) (hf:ps.length < f) (hn:cQ ps=true) (hp:On p (ts++u::rest)) (ht:ts.map kf=Gp ps) :
  ∃ q,pF f [] p=some (ps,q)/\bS p q (.ok rest):=by
 obtain ⟨f,rfl⟩:∃ g',f=g'+1:=⟨f - 1,by omega⟩
 match ps,hn,ht,hf with
 | [],_,ht,_ =>
  have:ts=[]:=by simpa [Gp] using ht
  subst this;rw [nil_append] at hp;refine ⟨p.next,?_,nx hp,eQ hp⟩;rw [pF,M (by rw [AR hp hu];rintro ⟨_,h⟩;cases h),uI hp hu]
 | s::ps,hn,ht,hf =>
  rw [Gp] at ht;obtain ⟨w,r,rfl,I,ht⟩:=map_cons ht;unfold cQ at hn;rw [all_cons,aH] at hn;simp only [cons_append] at hp;have p2:=nx hp;rw [length_cons] at hf
  obtain ⟨q,h3,h4⟩:=Rc hu ps f ([]++[s]) p.next r aq (by simp) hn.2 p2 ht
  refine ⟨q,?_,h4.1,by rw [h4.2.1,(eQ hp).1],by rw [h4.2.2,(eQ hp).2]⟩;rw [pF,ab ⟨hp.code,Kr hp I (fun h=>by cases h)⟩,ab (by rfl),qO hp,(qE I).2,yQ hp I hn.1,h3];rfl
def fW (p:RS):Nat:=40 * p.l.length+100
theorem Gq:∀ ps:List ae,ps.length<=(vz ps).length
 | []=>aM _
 | s::r=>by have:=Gq r;rw [vz,length_cons,length_cons,length_cons];omega
theorem SG (ps:List ae):ps.length<=(Gp ps).length:=by
 cases ps with
 | nil=>exact aM _
 | cons s r=>have:=Gq r;rw [Gp,length_cons,length_cons];omega
theorem On.len {p:RS} {ts:List Tok} (h:Go.Sp.On p ts):ts.length<=p.l.length:=by
 rw [<-h.rest,iK];omega
theorem UQ {f:Nat} {q:RS} {ts:List Tok} (hq:Go.Sp.On q ts) (hs:tN q.l) (hf:fW q<=f):∃ t q',iS f (.block 1) q=some (t,q')/\jP q q' t (block q.e 1 ts):=by
 obtain ⟨t,q',L,I⟩:=(is_ (nz ts)).block 1 ts q hq hs wP;have:=On.len hq;exact ⟨t,q',L f (by unfold KI nz;unfold fW at hf;omega),I⟩
theorem Zp {f:Nat} {p:RS} {st:PS} {ts rest:List Tok} {x:Fn × List S} (hp:On p (ts++rest)) (hs:tN p.l) (hf:fW p<=f) (ht:ts.map kf=Iw x) (L:bt x.1.name=true) (I:cQ x.1.params=true) (h3:S.db x.2=true) :
  (eU x.2 1=true->∃ q t,iW f p st=some (q,{ st with trees:=st.trees++[t],fns:=st.fns++[(x.1.name,x.1.params)] })/\er t=bU x.2/\bS p q (.ok rest)) /\
  (eU x.2 1=false->∃ q ey,iW f p st=some (q,ey)/\q.code≠0):=by
 obtain ⟨u,r,rfl,k1,ht⟩:=map_cons ht;obtain ⟨v,r,rfl,k2,ht⟩:=map_cons ht;obtain ⟨w,r,rfl,k3,ht⟩:=map_cons ht;obtain ⟨A,r,rfl,k4,ht⟩:=dx ht;obtain ⟨y,r,rfl,k5,ht⟩:=map_cons ht;simp only [cons_append,cK] at hp;have p1:=nx hp;have p2:=nx p1;have p3:=nx p2
 have hl:p.next.next.next.l=p.l:=by rw [(eQ p2).1,(eQ p1).1,(eQ hp).1]
 have hA:x.1.params.length<=A.length:=by have:=SG x.1.params;rw [<-k4,bP] at this;exact this
 have dJ:=On.len p3;simp only [aU] at dJ;rw [hl] at dJ
 have Uo:x.1.params.length < f:=by unfold fW at hf;omega
 obtain ⟨q,h4,h5⟩:=Wn k5 x.1.params f p.next.next.next A Uo I p3 k4
 have rj:q.l=p.l:=h5.2.1.trans hl;obtain ⟨t,q',h6,h7⟩:=UQ (f:=f) h5.1 (by rw [rj];exact hs) (by unfold fW at hf |-;rw [rj];exact hf);obtain ⟨r1,r2⟩:=EZ (e:=q.e) (d:=1) (rest:=rest) h3 ht
 have hw:iW f p st=some (q',{ st with trees:=st.trees++[t],fns:=st.fns++[(x.1.name,x.1.params)] }):=by
  unfold iW;rw [M (by rw [Kr hp k1 av];decide),ab (AR hp k1),yQ p1 k2 L,uI p2 k3,h4];simp only;rw [ab h5.1.code,h6,qO p1,(qE k2).2]
 refine ⟨fun vu=>?_,fun vu=>?_⟩
 ·obtain ⟨t',j1,j2⟩:=r1 vu;rw [j2] at h7;obtain ⟨rfl,j3⟩:=h7;exact ⟨q',t,hw,j1,j3.1,j3.2.1.trans rj,j3.2.2.trans (h5.2.2.trans (by rw [(eQ p2).2,(eQ p1).2,(eQ hp).2]))⟩
 ·obtain ⟨pos,j2⟩:=r2 vu;rw [j2] at h7;exact ⟨q',_,hw,bS.err h7⟩
theorem rF {aaL f:Nat} {p q:RS} {st ey:PS} {u:Tok} {r:List Tok} (hp:On p (u::r)) (h:iW f p st=some (q,ey)):n8 (aaL+1) f p st=n8 aaL f q ey:=by
 rw [n8,ab ⟨hp.code,Zv hp⟩,h]
theorem Rh {f:Nat} {rest:List Tok}:∀ (gs:List ae) (p:RS) (st:PS) (ts:List Tok),On p (ts++rest)->ts.map kf=gs.flatMap Mj->cQ gs=true ->
  ∃ q,bS p q (.ok rest)/\∀ aaL,n8 (aaL+gs.length) f p st=n8 aaL f q { st with globals:=st.globals++gs }
 | [],p,st,ts,hp,ht,_=>by
  have:ts=[]:=by simpa using ht
  subst this;exact ⟨p,On.self hp,fun aaL=>by simp⟩
 | s::gs,p,st,ts,hp,ht,hn=>by
  rw [flatMap_cons] at ht;obtain ⟨A,B,rfl,L,I⟩:=dx ht;unfold cQ at hn;rw [all_cons,aH] at hn;rw [cK] at hp;obtain ⟨q,h3,h4⟩:=Zq (f:=f) (st:=st) hp L hn.1;obtain ⟨q',h5,h6⟩:=Rh gs q { st with globals:=st.globals++[s] } B h4.1 I hn.2;refine ⟨q',h4.tr h5,fun aaL=>?_⟩;obtain ⟨u,r,rfl,_,_⟩:=map_cons L;rw [length_cons,<-fP,rF hp h3,h6];simp
theorem Re {f:Nat} {rest:List Tok}:∀ (as:List Ar) (p:RS) (st:PS) (ts:List Tok),On p (ts++rest)->ts.map kf=as.flatMap H4->as.all pd=true ->
  ∃ q,bS p q (.ok rest)/\∀ aaL,n8 (aaL+as.length) f p st=n8 aaL f q { st with arrays:=st.arrays++as }
 | [],p,st,ts,hp,ht,_=>by
  have:ts=[]:=by simpa using ht
  subst this;exact ⟨p,On.self hp,fun aaL=>by simp⟩
 | s::gs,p,st,ts,hp,ht,hn=>by
  rw [flatMap_cons] at ht;obtain ⟨A,B,rfl,L,I⟩:=dx ht;rw [all_cons,aH] at hn;rw [cK] at hp
  have eV:bt s.name=true:=by have:=hn.1;unfold pd at this;simp only [aH] at this;exact this.1.1
  obtain ⟨q,h3,h4⟩:=Zo (f:=f) (st:=st) hp L eV;obtain ⟨q',h5,h6⟩:=Re gs q { st with arrays:=st.arrays++[s] } B h4.1 I hn.2;refine ⟨q',h4.tr h5,fun aaL=>?_⟩;obtain ⟨u,r,rfl,_,_⟩:=map_cons L;rw [length_cons,<-fP,rF hp h3,h6];simp
def VO (x:Fn × List S):Prop:=bt x.1.name=true/\cQ x.1.params=true/\S.db x.2=true
theorem Rf {f:Nat}:∀ (xs:List (Fn × List S)) (p:RS) (st:PS) (ts:List Tok),On p ts->tN p.l->fW p<=f->ts.map kf=xs.flatMap Iw->(∀ x∈xs,VO x) ->
  ((xs.all fun x=>eU x.2 1)=true->∃ q l,(∀ aaL,xs.length < aaL->n8 aaL f p st=some (q,{ st with trees:=st.trees++l,fns:=st.fns++xs.map fun x=>(x.1.name,x.1.params) }))/\q.code=0/\aS l=xs.map fun x=>bU x.2) /\
  ((xs.all fun x=>eU x.2 1)=false->∃ q ey,(∀ aaL,xs.length < aaL->n8 aaL f p st=some (q,ey))/\q.code≠0)
 | [],p,st,ts,hp,_,_,ht,_=>by
  have:ts=[]:=by simpa using ht
  subst this;refine ⟨fun _=>⟨p,[],fun aaL hG=>?_,hp.code,by rw [aS];rfl⟩,fun h=>by cases h⟩;obtain ⟨aaL,rfl⟩:∃ g',aaL=g'+1:=⟨aaL - 1,by rw [length_nil] at hG;omega⟩;rw [n8,M (fun hc=>U6 hp hc.2)];simp
 | x::xs,p,st,ts,hp,hs,hf,ht,hx=>by
  rw [flatMap_cons] at ht;obtain ⟨A,B,rfl,L,I⟩:=dx ht;obtain ⟨x1,x2,x3⟩:=hx x mem_cons_self;obtain ⟨k1,k2⟩:=Zp (st:=st) hp hs hf L x1 x2 x3
  have cr:∃ u r,A++B=u::r:=by obtain ⟨u,r,rfl,_,_⟩:=map_cons L;exact ⟨u,_,rfl⟩
  obtain ⟨u,r,hu⟩:=cr;rw [hu] at hp
  cases hb:eU x.2 1 with
  | false =>
   obtain ⟨q,ey,k3,k4⟩:=k2 hb;refine ⟨fun h=>(by rw [all_cons,hb] at h;cases h),fun _=>⟨q,ey,fun aaL hG=>?_,k4⟩⟩;obtain ⟨aaL,rfl⟩:∃ g',aaL=g'+1:=⟨aaL - 1,by rw [length_cons] at hG;omega⟩;rw [rF hp k3,IV k4 (by rw [length_cons] at hG;omega)]
  | true =>
   obtain ⟨q,t,k3,k4,k5⟩:=k1 hb;have rj:q.l=p.l:=k5.2.1;obtain ⟨j1,j2⟩:=Rf (f:=f) xs q { st with trees:=st.trees++[t],fns:=st.fns++[(x.1.name,x.1.params)] } B k5.1 (by rw [rj];exact hs) (by unfold fW at hf |-;rw [rj];exact hf) I (fun y hy=>hx y (di _ hy));rw [all_cons,hb,Bool.true_and];refine ⟨fun h=>?_,fun h=>?_⟩
   ·obtain ⟨q',l,j3,j4,j5⟩:=j1 h;refine ⟨q',t::l,fun aaL hG=>?_,j4,by rw [aS,k4,j5];rfl⟩;obtain ⟨aaL,rfl⟩:∃ g',aaL=g'+1:=⟨aaL - 1,by rw [length_cons] at hG;omega⟩;rw [rF hp k3,j3 aaL (by rw [length_cons] at hG;omega)];simp
   ·obtain ⟨q',ey,j3,j4⟩:=j2 h;refine ⟨q',ey,fun aaL hG=>?_,j4⟩;obtain ⟨aaL,rfl⟩:∃ g',aaL=g'+1:=⟨aaL - 1,by rw [length_cons] at hG;omega⟩;rw [rF hp k3,j3 aaL (by rw [length_cons] at hG;omega)]
theorem ND (aaL:List ae) (As:List Ar) (xs:List (Fn × List S)) (L:cQ aaL=true) (I:As.all pd=true) (h3:∀ x∈xs,VO x) :
  ∃ ts,Tz (dG kc (dG a1 (dG g1 [] aaL) As) xs) 0 ts (dG kc (dG a1 (dG g1 [] aaL) As) xs).length /\
  (tN ts->∀ (e:Int) (g f:Nat),ts.length+1<=g->40 * ts.length+100<=f ->
   ((xs.all fun x=>eU x.2 1)=true->∃ q l,n8 g f ⟨ts,0,e,0,0⟩ .empty=some (q,⟨l,aaL,As,xs.map fun x=>(x.1.name,x.1.params)⟩)/\q.code=0/\aS l=xs.map fun x=>bU x.2) /\
   ((xs.all fun x=>eU x.2 1)=false->∃ q ey,n8 g f ⟨ts,0,e,0,0⟩ .empty=some (q,ey)/\q.code≠0)):=by
 have l1:=zt (f:=g1) (k:=Mj) aaL (fun s hs=>WA (gK.1 L s hs)) [] [] eF.nil;have l2:=zt (f:=a1) (k:=H4) As (fun s hs=>Wy (gK.1 I s hs)) _ _ l1;have l3:=zt (f:=kc) (k:=Iw) xs (fun x hx=>by obtain ⟨a,b,c⟩:=h3 x hx;exact Wz a b c) _ _ l2;obtain ⟨ts,k1,k2⟩:=l3.all;refine ⟨ts,k2,fun hs e g f hg hf=>?_⟩;rw [nil_append] at k1;obtain ⟨A,C,rfl,k3,k4⟩:=dx k1;obtain ⟨A,B,rfl,k5,k6⟩:=dx k3;have DS:On ⟨(A++B)++C,0,e,0,0⟩ (A++(B++C)):=⟨rfl,aM _,by simp,k2.kinds⟩;obtain ⟨q1,j1,j2⟩:=Rh (f:=f) aaL _ .empty A DS k5 L;obtain ⟨q2,j3,j4⟩:=Re (f:=f) As q1 _ B j1.1 k6 I;have rj:q2.l=(A++B)++C:=(j1.tr j3).2.1;obtain ⟨j5,j6⟩:=Rf (f:=f) xs q2 { ({ PS.empty with globals:=PS.empty.globals++aaL }:PS) with arrays:=PS.empty.arrays++As } C j3.1 (by rw [rj];exact hs) (by unfold fW;rw [rj];exact hf) k4 h3
 have c1:aaL.length<=A.length:=by
  have:=congrArg List.length k5;rw [bP] at this;rw [this];clear this k5 j1 j2 j3 j4 j5 j6 rj DS hs k1 k2 k3 l1 l2 l3 hf hg L
  induction aaL with
  | nil=>exact aD _
  | cons s aaL ih=>rw [flatMap_cons,aU,length_cons];simp only [Mj,length_cons,length_nil];omega
 have c2:As.length<=B.length:=by
  have:=congrArg List.length k6;rw [bP] at this;rw [this];clear this k6 j1 j2 j3 j4 j5 j6 rj DS hs k1 k2 k3 l1 l2 l3 hf hg I
  induction As with
  | nil=>exact aD _
  | cons s aaL ih=>rw [flatMap_cons,aU,length_cons];simp only [H4,length_cons,length_nil];omega
 have c3:xs.length<=C.length:=by
  have:=congrArg List.length k4;rw [bP] at this;rw [this];clear this k4 j1 j2 j3 j4 j5 j6 rj DS hs k1 k2 k3 l1 l2 l3 hf hg h3
  induction xs with
  | nil=>exact aD _
  | cons s aaL ih=>rw [flatMap_cons,aU,length_cons];simp only [Iw,length_cons];omega
 rw [aU,aU] at hg;have nQ:∃ g',xs.length < g'/\g=g'+As.length+aaL.length:=⟨g - As.length - aaL.length,by omega,by omega⟩;obtain ⟨g',mu,rfl⟩:=nQ;rw [j2,j4];refine ⟨fun h=>?_,fun h=>?_⟩
 ·obtain ⟨q,l,j7,j8,j9⟩:=j5 h;exact ⟨q,l,j7 g' mu,j8,j9⟩
 ·obtain ⟨q,ey,j7,j8⟩:=j6 h;exact ⟨q,ey,j7 g' mu,j8⟩
structure Cy (st:PS):Prop where
 globals:cQ st.globals=true
 arrays:st.arrays.all pd=true
 fns:∀ x∈st.fns,bt x.1=true/\cQ x.2=true
 trees:∀ t∈st.trees,BF t
 len:st.fns.length=st.trees.length
theorem Ag {a b:List ae} (h:cQ a=true) (k:cQ b=true):cQ (a++b)=true:=by
 unfold cQ at *;rw [List.all_append,h,k];rfl
theorem Ah {s:ae} (h:bt s=true):cQ [s]=true:=by
 unfold cQ;rw [all_cons,h];rfl
theorem Sf.len {a b:List Tok} {n:Nat} (h:Sf a b n):b.length+n<=a.length:=by
 obtain ⟨p,rfl,h⟩:=h;rw [aU];omega
theorem IQ:∀ (f:Nat) (acc:List ae) (p:RS) (ts:List Tok),On p ts->sf ts->ts.length+1 < f->cQ acc=true ->
  ∃ l q,pF f acc p=some (l,q)/\((∃ r n,bS p q (.ok r)/\cQ l=true/\Sf ts r n)\/q.code≠0)
 | 0,acc,p,ts,_,_,hf,_=>by omega
 | f+1,acc,p,ts,hp,ho,hf,hn=>by
  rw [pF]
  by_cases hc:p.code=0/\is p 0 [41]=false
  ·rw [ab hc]
   have kZ:(∃ r,bS p (if acc.length=0 then p else want p [44]) (.ok r)/\Sf ts r 0)\/(if acc.length=0 then p else want p [44]).code≠0:=by
    by_cases ha:acc.length=0
    ·rw [ab ha];exact .inl ⟨ts,On.self hp,.nil _⟩
    ·rw [M ha]
     rcases mN hp (s:=[44]) av with ⟨r,L,I⟩ | ⟨x,L,I⟩
     ·exact .inl ⟨r,I,(Sf.aP av L).le (aM _)⟩
     ·exact .inr (bS.err I)
   generalize (if acc.length=0 then p else want p [44])=p' at *
   rcases kZ with ⟨r,L,I⟩ | L
   ·rcases uw L.1 with ⟨r2,h3,h4⟩ | ⟨x,h3,h4⟩
    ·obtain ⟨k1,k2⟩:=Sf.name h3 (I.ok ho);have hlen:=(I.trans k1).len;obtain ⟨l,q,k3,k4⟩:=IQ f (acc++[(tok p' 0).s]) (bD p') r2 h4.1 ((I.trans k1).ok ho) aq (Ag hn (Ah k2));refine ⟨l,q,k3,?_⟩
     rcases k4 with ⟨r3,n,k5,k6,k7⟩ | k5
     ·exact .inl ⟨r3,_,(L.tr h4).tr k5,k6,(I.trans k1).trans k7⟩
     ·exact .inr k5
    ·exact ⟨_,_,zq (bS.err h4) aq,.inr (bS.err h4)⟩
   ·rw [Nr L];exact ⟨_,_,zq L aq,.inr L⟩
  ·rw [M hc]
   rcases mN hp (s:=[41]) av with ⟨r,L,I⟩ | ⟨x,L,I⟩
   ·exact ⟨acc,_,rfl,.inl ⟨r,1,I,hn,Sf.aP av L⟩⟩
   ·exact ⟨acc,_,rfl,.inr (bS.err I)⟩
theorem US {f:Nat} {p:RS} {st:PS} {u:Tok} {r0:List Tok} (hp:On p (u::r0)) (ho:sf (u::r0)) (hs:tN p.l) (hf:fW p<=f) (cz:Cy st) :
  ∃ q ey,iW f p st=some (q,ey)/\((∃ r n,bS p q (.ok r)/\Cy ey/\Sf (u::r0) r (n+1)/\aB ey.trees<=n+1+aB st.trees)\/q.code≠0):=by
 have p1:=nx hp;have iy:=Sf.one u r0;unfold iW
 by_cases L:is p 0 mi=true
 ·rw [ab L]
  rcases uw p1 with ⟨r1,a1,a2⟩ | ⟨x,a1,a2⟩
  ·obtain ⟨b1,b2⟩:=Sf.name a1 (iy.ok ho);have b3:=iy.trans b1;have a3:bS p (bD p.next) (.ok r1):=(On.next hp).tr a2
   by_cases I:(bD p.next).code=0/\is (bD p.next) 0 [91]=true
   ·rw [ab I]
    have h3:sign r1 0=[91]:=by
     have:=On.is a2.1 0 (s:=[91]) av;rw [I.2] at this;simpa using this.symm
    obtain ⟨v,h4,_⟩:=uC av h3;have b4:=b3.trans (Sf.sign av h3);have p2:=a2.1;rw [h4] at p2
    have a4:bS p (bD p.next).next (.ok r1.tail):=a3.tr (On.next p2)
    have p3:=nx p2
    by_cases h5:(tok (bD p.next).next 0).kind=1
    ·rw [ab h5]
     cases hr:r1.tail with
     | nil =>
      rw [hr] at p3;have:=On.tok p3 0;rw [this] at h5;cases h5
     | cons w r3 =>
      rw [hr] at p3 a4 b4;have p4:=nx p3;have b5:=b4.trans (Sf.one w r3);have a5:=a4.tr (On.next p3);rw [qO p3] at h5;have hw:=(b4.ok ho w mem_cons_self).num h5
      rcases mN p4 (s:=[93]) av with ⟨r4,c1,c2⟩ | ⟨x,c1,c2⟩
      ·rcases mN c2.1 (s:=[59]) av with ⟨r5,d1,d2⟩ | ⟨x,d1,d2⟩
       ·refine ⟨_,_,rfl,.inl ⟨r5,0,(a5.tr c2).tr d2,⟨cz.globals,?_,cz.fns,cz.trees,cz.len⟩,((b5.trans (Sf.aP av c1)).trans (Sf.aP av d1)).le aq,by simp only;omega⟩⟩;simp only;rw [List.all_append,cz.arrays,all_cons,List.all_nil,Bool.and_true,Bool.true_and];unfold pd;rw [qO p3,b2];simp only [aH,Bool.not_eq_true',decide_eq_false_iff_not];exact ⟨⟨trivial,by omega⟩,by omega⟩
       ·exact ⟨_,_,rfl,.inr (bS.err d2)⟩
      ·refine ⟨_,_,rfl,.inr ?_⟩;rw [gm (bS.err c2)];exact bS.err c2
    ·rw [M h5];exact ⟨_,_,rfl,.inr (bS.err (On.kV p3))⟩
   ·rw [M I]
    rcases mN a2.1 (s:=[59]) av with ⟨r4,c1,c2⟩ | ⟨x,c1,c2⟩
    ·exact ⟨_,_,rfl,.inl ⟨r4,0,a3.tr c2,⟨Ag cz.globals (Ah b2),cz.arrays,cz.fns,cz.trees,cz.len⟩,(b3.trans (Sf.aP av c1)).le aq,by simp only;omega⟩⟩
    ·exact ⟨_,_,rfl,.inr (bS.err c2)⟩
  ·rw [M (fun h=>bS.err a2 h.1),gm (bS.err a2)];exact ⟨_,_,rfl,.inr (bS.err a2)⟩
 ·rw [M L]
  by_cases I:is p 0 nH=true
  ·rw [ab I]
   rcases uw p1 with ⟨r1,a1,a2⟩ | ⟨x,a1,a2⟩
   ·obtain ⟨b1,b2⟩:=Sf.name a1 (iy.ok ho);have b3:=iy.trans b1;have a3:bS p (bD p.next) (.ok r1):=(On.next hp).tr a2
    rcases mN a2.1 (s:=[40]) av with ⟨r2,c1,c2⟩ | ⟨x,c1,c2⟩
    ·have b4:=b3.trans (Sf.aP av c1);have a4:=a3.tr c2;have hl:=On.len c2.1;have jc:(want (bD p.next) [40]).l=p.l:=a4.2.1;obtain ⟨l,q,k1,k2⟩:=IQ f [] _ r2 c2.1 (b4.ok ho) (by rw [jc] at hl;unfold fW at hf;omega) rfl;rw [k1];simp only
     rcases k2 with ⟨r3,n,k3,k4,k5⟩ | k3
     ·have a5:=a4.tr k3;have rj:q.l=p.l:=a5.2.1;rw [ab k3.1.code];obtain ⟨t,q',k6,k7⟩:=UQ (f:=f) k3.1 (by rw [rj];exact hs) (by unfold fW at hf |-;rw [rj];exact hf);rw [k6];simp only;have b5:=b4.trans k5
      cases hb:block q.e 1 r3 with
      | error x=>rw [hb] at k7;exact ⟨_,_,rfl,.inr (bS.err k7)⟩
      | ok y =>
       obtain ⟨t',r4⟩:=y;rw [hb] at k7;obtain ⟨rfl,k7⟩:=k7;obtain ⟨k8,k9⟩:=JW (b5.ok ho) hb;refine ⟨_,_,rfl,.inl ⟨r4,n+aQ t+2,a5.tr k7,⟨cz.globals,cz.arrays,?_,?_,?_⟩,(b5.trans k9).le aq,?_⟩⟩
       ·intro x hx
        rcases oI hx with hx | hx
        ·exact cz.fns x hx
        ·rw [mem_singleton] at hx;subst hx;exact ⟨b2,k4⟩
       ·intro x hx
        rcases oI hx with hx | hx
        ·exact cz.trees x hx
        ·rw [mem_singleton] at hx;subst hx;exact k8
       ·simp only [aU,length_cons,length_nil];have:=cz.len;omega
       ·simp only [gZ,aB];omega
     ·rw [M k3];exact ⟨_,_,rfl,.inr k3⟩
    ·rw [zq (bS.err c2) (by unfold fW at hf;omega)];simp only;rw [M (bS.err c2)];exact ⟨_,_,rfl,.inr (bS.err c2)⟩
   ·rw [gm (bS.err a2),zq (bS.err a2) (by unfold fW at hf;omega)];simp only;rw [M (bS.err a2)];exact ⟨_,_,rfl,.inr (bS.err a2)⟩
  ·rw [M I];exact ⟨_,_,rfl,.inr (bS.err (On.kV hp))⟩
theorem IU {f:Nat}:∀ (aaL:Nat) (p:RS) (st:PS) (ts:List Tok),On p ts->sf ts->tN p.l->fW p<=f->Cy st->ts.length < aaL ->
  ∃ q ey,n8 aaL f p st=some (q,ey)/\(q.code=0->Cy ey/\aB ey.trees<=ts.length+aB st.trees)
 | 0,p,st,ts,_,_,_,_,_,hG=>by omega
 | aaL+1,p,st,ts,hp,ho,hs,hf,cz,hG=>by
  cases ts with
  | nil =>
   rw [n8,M (fun hc=>U6 hp hc.2)];exact ⟨p,st,rfl,fun _=>⟨cz,by simp⟩⟩
  | cons u r0 =>
   obtain ⟨q,ey,L,I⟩:=US hp ho hs hf cz;rw [rF hp L];rw [length_cons] at hG
   rcases I with ⟨r,n,h3,h4,h5,h6⟩ | h3
   ·have hl:=h5.len;rw [length_cons] at hl;have rj:q.l=p.l:=h3.2.1;obtain ⟨q',st2,k1,k2⟩:=IU aaL q ey r h3.1 (h5.ok ho) (by rw [rj];exact hs) (by unfold fW at hf |-;rw [rj];exact hf) h4 aq;exact ⟨q',st2,k1,fun hc=>by obtain ⟨k3,k4⟩:=k2 hc;exact ⟨k3,by rw [length_cons];omega⟩⟩
   ·exact ⟨q,ey,IV h3 aq,fun hc=>absurd hc h3⟩
def pM (st:PS):List Fn:=st.fns.mapIdx fun i x=>⟨x.1,x.2,((aB (st.trees.take i):Nat):Int)⟩
def same (p:Src) (st:PS):Bool:=fH (fun x y=>x==y) p.globals st.globals&&(fH zQ p.arrays st.arrays&&(fH sc p.fns (pM st)&&fH lN p.nodes (bO 0 st.trees)))
structure Reads (x:ae) (ts:List Tok) (c z:Int) (q:RS) (st:PS):Prop where
 lex:nS x (x.length+1) 0 []=some (ts,c,z)
 len:ts.length<=x.length
 read:n8 (ts.length+1) (40 * ts.length+100) ⟨ts,0,(x.length:Int),0,0⟩ .empty=some (q,st)
 ok:q.code=0->Cy st/\aB st.trees<=ts.length
theorem reads (x:ae):∃ ts c z q st,Reads x ts c z q st:=by
 obtain ⟨ts,c,z,L,I,h3,h4⟩:=sx x (x.length+1) 0 [] (aM _) aq (fun t h=>by simp at h) .nil (fun t h=>by simp at h) (aD _);have DS:On ⟨ts,0,(x.length:Int),0,0⟩ ts:=⟨rfl,aM _,rfl,fun t ht=>(I t ht).kinds⟩;obtain ⟨q,st,h5,h6⟩:=IU (f:=40 * ts.length+100) (ts.length+1) _ .empty ts DS I h3 (aD _) ⟨rfl,rfl,fun x h=>(by cases h),fun x h=>(by cases h),rfl⟩ aq;exact ⟨ts,c,z,q,st,L,h4,h5,fun h=>by obtain ⟨a,b⟩:=h6 h;exact ⟨a,by simpa [PS.empty,aB] using b⟩⟩
structure Forms (l:List T) (ls:List (List S)):Prop where
 len:ls.length=l.length
 at_:∀ (i:Nat) t b,l[i]?=some t->ls[i]?=some b->S.db b=true/\er t=bU b
theorem Fh:∀ (l:List T),(∀ t∈l,BF t)->∃ ls,Forms l ls
 | [],_=>⟨[],rfl,fun i t b h=>by simp at h⟩
 | t::l,h=>by
  obtain ⟨b,L,I⟩:=h t mem_cons_self
  obtain ⟨ls,h3⟩:=Fh l fun u hu=>h u (di _ hu)
  refine ⟨b::ls,by simp [h3.len],fun i t' b' k1 k2=>?_⟩
  cases i with
  | zero=>cases k1;cases k2;exact ⟨L,I⟩
  | succ i=>exact h3.at_ i t' b' (by simpa using k1) (by simpa using k2)
theorem eT.mem {Q:Fn->T->Prop}:∀ {fns:List Fn} {a:Nat} {l:List T},eT Q fns a l->(∀ f∈fns,∃ t∈l,Q f t)/\(∀ t∈l,∃ f∈fns,Q f t)
 | [],_,[],_=>⟨fun f h=>(by cases h),fun f h=>(by cases h)⟩
 | f::r,a,t::l,h=>by
  rw [eT] at h;obtain ⟨k1,k2⟩:=eT.mem h.2.2;refine ⟨fun g hg=>?_,fun u hu=>?_⟩
  ·rcases dA hg with rfl | hg
   ·exact ⟨t,mem_cons_self,h.2.1⟩
   ·obtain ⟨u,a,b⟩:=k1 g hg;exact ⟨u,di _ a,b⟩
  ·rcases dA hu with rfl | hu
   ·exact ⟨f,mem_cons_self,h.2.1⟩
   ·obtain ⟨g,a,b⟩:=k2 u hu;exact ⟨g,di _ a,b⟩
 | [],_,t::l,h=>by cases h
 | f::r,_,[],h=>by cases h
theorem dU.QF {p:Src} {l:List T} (h:dU p l):∃ ls,Forms l ls:=by
 refine Fh l fun t ht=>?_
 obtain ⟨f,_,L⟩:=(eT.mem h.fns).2 t ht;exact toB L.all L.kind
theorem dU.at_ {p:Src} {l:List T} (h:dU p l):nc l:=by
 have:∀ l:List T,(∀ t∈l,dv t=true)->nc l:=by
  intro l
  induction l with
  | nil=>intro _;trivial
  | cons t l ih=>intro h;rw [nc];exact ⟨EX t (h t mem_cons_self),ih fun u hu=>h u (di _ hu)⟩
 refine this l fun t ht=>?_
 obtain ⟨f,_,L⟩:=(eT.mem h.fns).2 t ht;exact L.all
theorem dU.Bg {p:Src} {l:List T} (h:dU p l):j0 p.nodes p.fns 0 []=some (l,p.nodes.length):=by
 rw [Ie p.fns 0 [] l h.st h.fns h.at_,h.len];simp
theorem dU.k {p:Src} {l:List T} (h:dU p l):l.all gV=true:=by
 rw [gK];intro t ht;obtain ⟨f,_,L⟩:=(eT.mem h.fns).2 t ht;exact Qz t L.all
theorem Mc {l:List T} {ls:List (List S)} (h:Forms l ls):aS l=ls.map bU:=by
 rw [tD];apply List.ext_getElem?;intro i;rw [aV,aV];have hl:=h.len
 cases L:l[i]? with
 | none =>
  rw [List.getElem?_eq_none_iff] at L;rw [List.getElem?_eq_none_iff.2 aq];rfl
 | some t =>
  have hi:=(bp L).1
  have I:ls[i]?=some (ls[i]'aq):=by simp [hl,hi]
  rw [I];exact congrArg some (h.at_ i t _ L I).2
theorem zip_fst {α β:Type}:∀ (a:List α) (b:List β),a.length=b.length->(a.zip b).map Prod.fst=a
 | [],[],_=>rfl
 | x::a,y::b,h=>by rw [zip_cons_cons,List.map_cons,zip_fst a b (by simpa using h)]
 | [],y::b,h=>by simp at h
 | x::a,[],h=>by simp at h
theorem Dq {α β:Type}:∀ (a:List α) (b:List β),a.length=b.length->(a.zip b).map Prod.snd=b
 | [],[],_=>rfl
 | x::a,y::b,h=>by rw [zip_cons_cons,List.map_cons,Dq a b (by simpa using h)]
 | [],y::b,h=>by simp at h
 | x::a,[],h=>by simp at h
theorem yZ (l:List T) (i:Nat):aB (l.take i)=aB ((aS l).take i):=by
 rw [tD,<-List.map_take,<-tD,wC]
theorem Vr {p:Src} {l:List T} {l':List T} {ls:List (List S)} (h:dU p l) (he:aS l'=aS l):same p ⟨l',p.globals,p.arrays,p.fns.map fun x=>(x.name,x.params)⟩=true:=by
 unfold same;simp only [aH];refine ⟨rC (fun x=>by simp) _,rC (fun x=>by simp [zQ]) _,?_,?_⟩
 ·have:pM ⟨l',p.globals,p.arrays,p.fns.map fun x=>(x.name,x.params)⟩=p.fns:=by
   unfold pM;apply List.ext_getElem?;intro i;simp only [List.getElem?_mapIdx,aV]
   cases hf:p.fns[i]? with
   | none=>rfl
   | some f =>
    have hlen:=eT.len h.fns;have hi:=(bp hf).1
    have ht:l[i]?=some (l[i]'aq):=by simp [<-hlen,hi]
    have hb:=(eT.at_ h.fns i f _ hf ht).1;rw [cL,yZ,<-he,<-yZ] at hb;simp only [Option.map_some];rw [<-hb]
  rw [this];refine rC (fun x=>?_) _;simp [sc,rC]
 ·rw [dC.all h.st h.len];exact CK _ _ 0 he.symm
theorem UX {p:Src} {l:List T} {ls:List (List S)} (h:dU p l) (hf:Forms l ls):nR de fV p l=dG kc (dG a1 (dG g1 [] p.globals) p.arrays) (p.fns.zip ls):=by
 unfold nR
 refine LO _ _ _ _ hf.len fun i t b L I=>?_
 obtain ⟨h3,h4⟩:=hf.at_ i t b L I;rw [<-LJ,h4];exact vI b h3 0
theorem Lb {p:Src} {l:List T} {ls:List (List S)} (h:dU p l) (hf:Forms l ls) {ts:List Tok} {c z:Int} {q:RS} {st:PS} (hr:Reads (nR de fV p l) ts c z q st) :
  c=0/\((ls.all fun b=>eU b 1)=true->q.code=0/\aB st.trees<=800/\same p st=true)/\((ls.all fun b=>eU b 1)=false->q.code≠0):=by
 have hx:=UX h hf;have hlen:=eT.len h.fns;have re:=hf.len
 have rn:∀ x∈p.fns.zip ls,VO x:=by
  intro x hx;obtain ⟨f,b⟩:=x;obtain ⟨i,hi⟩:=List.getElem?_of_mem hx;rw [List.getElem?_zip_eq_some] at hi;have sU:=(bp hi.2).1
  have ht:l[i]?=some (l[i]'aq):=by simp [<-re,sU]
  have L:=(eT.at_ h.fns i f _ hi.1 ht).2;exact ⟨L.name,L.params,(hf.at_ i _ b ht hi.2).1⟩
 obtain ⟨us,L,I⟩:=ND p.globals p.arrays (p.fns.zip ls) h.globals h.arrays rn;rw [<-hx] at L;have h3:=Su L rfl ((nR de fV p l).length+1) [] aq;rw [nil_append,hr.lex] at h3;simp only [Option.some.injEq,Prod.mk.injEq] at h3;obtain ⟨rfl,rfl,rfl⟩:=h3
 have Zh:tN ts:=by
  obtain ⟨jC,c',z',k1,k2,k3,k4⟩:=sx (nR de fV p l) ((nR de fV p l).length+1) 0 [] (aM _) aq (fun t h=>by simp at h) .nil (fun t h=>by simp at h) (aD _);rw [hr.lex] at k1;cases k1;exact k3
 obtain ⟨h4,h5⟩:=I Zh ((nR de fV p l).length:Int) (ts.length+1) (40 * ts.length+100) (aD _) (aD _)
 have aY:((p.fns.zip ls).all fun x=>eU x.2 1)=ls.all fun b=>eU b 1:=by
  have:ls=(p.fns.zip ls).map Prod.snd:=(Dq _ _ aq).symm
  conv=>rhs;rw [this]
  rw [List.all_map];rfl
 rw [aY] at h4 h5;refine ⟨rfl,fun vu=>?_,fun vu=>?_⟩
 ·obtain ⟨q',l',k1,k2,k3⟩:=h4 vu;rw [hr.read] at k1;simp only [Option.some.injEq,Prod.mk.injEq] at k1;obtain ⟨rfl,rfl⟩:=k1
  have e1:((p.fns.zip ls).map fun x=>bU x.2)=ls.map bU:=by
   have:ls=(p.fns.zip ls).map Prod.snd:=(Dq _ _ aq).symm
   conv=>rhs;rw [this]
   rw [map_map];rfl
  have e2:((p.fns.zip ls).map fun x=>(x.1.name,x.1.params))=p.fns.map fun x=>(x.name,x.params):=by
   have:p.fns=(p.fns.zip ls).map Prod.fst:=(zip_fst _ _ aq).symm
   conv=>rhs;rw [this]
   rw [map_map];rfl
  have he:aS l'=aS l:=by rw [k3,e1,Mc hf]
  refine ⟨k2,?_,?_⟩
  ·simp only;rw [<-wC,he,wC,h.len];exact h.few
  ·rw [e2];exact Vr (ls:=ls) h he
 ·obtain ⟨q',ey,k1,k2⟩:=h5 vu;rw [hr.read] at k1;simp only [Option.some.injEq,Prod.mk.injEq] at k1;obtain ⟨rfl,rfl⟩:=k1;exact k2
theorem Is {α:Type} {p:α->α->Bool} {a b:List α} (h:fH p a b=true) {x:α} (hx:x∈a):∃ y∈b,p x y=true:=by
 obtain ⟨i,hi⟩:=List.getElem?_of_mem hx;have hl:=zg h;have ak:=(bp hi).1
 have hb:b[i]?=some (b[i]'aq):=by simp [<-hl,ak]
 exact ⟨_,bF hb,E8 hi hb h⟩
theorem KU {p:Src} {l:List T} (hn:p.nodes.length<=800) (hb:j0 p.nodes p.fns 0 []=some (l,p.nodes.length)) {st:PS} (eW:Cy st) (hs:same p st=true):dU p l:=by
 obtain ⟨l',L,I,h3,h4,h5⟩:=CD _ _ _ _ _ hb;rw [nil_append] at L;subst L;unfold same at hs;simp only [aH] at hs;obtain ⟨s1,s2,s3,s4⟩:=hs
 have hz:aB l=p.nodes.length:=by omega
 have UA:=dC.all I hz;rw [UA] at s4
 have hlen:l.length=st.trees.length:=by
  have a1:=eT.len h3;have a2:=zg s3;unfold pM at a2;rw [List.length_mapIdx] at a2;have:=eW.len;omega
 have he:=SR hlen s4
 have nB:∀ f∈p.fns,bt f.name=true/\cQ f.params=true:=by
  intro f hf;obtain ⟨g,hg,hp⟩:=Is s3 hf;unfold pM at hg;obtain ⟨i,hi⟩:=List.getElem?_of_mem hg;rw [List.getElem?_mapIdx] at hi
  cases hx:st.fns[i]? with
  | none=>rw [hx] at hi;cases hi
  | some x =>
   rw [hx] at hi;cases hi;simp only [sc,aH,beq_iff_eq] at hp;obtain ⟨⟨k1,k2⟩,_⟩:=hp;obtain ⟨k3,k4⟩:=eW.fns x (bF hx);rw [k1,zf k2];exact ⟨k3,k4⟩
 have XI:∀ t∈l,t.n.kind=14/\dv t=true:=by
  intro t ht
  have h6:er t∈aS l:=by rw [tD];exact List.mem_map_of_mem ht
  rw [he,tD] at h6;obtain ⟨u,hu,h7⟩:=qX.1 h6;obtain ⟨b,k1,k2⟩:=eW.trees u hu;rw [h7] at k2
  have uV:xY t:=by
   have:∀ l:List T,nc l->t∈l->xY t:=by
    intro l
    induction l with
    | nil=>intro _ h;cases h
    | cons v l ih =>
     intro h hm;rw [nc] at h
     rcases dA hm with rfl | hm
     ·exact h.1
     ·exact ih h.2 hm
   exact this l h5 ht
  refine ⟨?_,LC t (by rw [k2];exact S.vJ b k1) uV⟩;have:=congrArg (fun x=>x.n.kind) k2;simp only [yb] at this;exact this
 refine ⟨?_,?_,I,eT.mono h3 fun f t hf ht _=>⟨(nB f hf).1,(nB f hf).2,(XI t ht).1,(XI t ht).2⟩,hz,hn⟩
 ·rw [zf s1];exact eW.globals
 ·rw [gK];intro a ha;obtain ⟨b,hb,hp⟩:=Is s2 ha;have h6:=gK.1 eW.arrays b hb;simp only [zQ,aH,beq_iff_eq] at hp;unfold pd at h6 |-;rw [hp.1,hp.2];exact h6
def bj {α:Type} (f:α->Nat):List α->Nat
 | []=>0
 | x::l=>f x+bj f l
theorem pX {α:Type} (f:α->Nat) (a b:List α):bj f (a++b)=bj f a+bj f b:=by
 induction a with
 | nil=>simp [bj]
 | cons x a ih=>simp only [cons_append,bj,ih];omega
theorem S1 {α:Type} {f g:α->Nat} {l:List α} (h:∀ x∈l,f x<=g x):bj f l<=bj g l:=by
 induction l with
 | nil=>exact aD _
 | cons x l ih =>
  have L:=h x mem_cons_self
  have I:=ih fun y hy=>h y (di _ hy)
  simp only [bj];omega
theorem oA {α:Type} {f:α->Nat} {l:List α} {x:α} (h:x∈l):f x<=bj f l:=by
 induction l with
 | nil=>cases h
 | cons y l ih =>
  rw [bj]
  rcases dA h with rfl | h
  ·omega
  ·have:=ih h;omega
theorem np {α:Type} {f g:α->Nat} {k:Nat} {l:List α} (h:∀ x∈l,f x<=k * g x):bj f l<=k * bj g l:=by
 induction l with
 | nil=>exact aM _
 | cons x l ih =>
  have L:=h x mem_cons_self
  have I:=ih fun y hy=>h y (di _ hy)
  simp only [bj,Nat.mul_add];omega
theorem uD {α:Type} (f:α->Nat) (l:List α) (h:∀ x∈l,1<=f x):l.length<=bj f l:=by
 induction l with
 | nil=>exact aM _
 | cons x l ih =>
  have L:=h x mem_cons_self
  have I:=ih fun y hy=>h y (di _ hy)
  rw [bj,length_cons];omega
theorem G1 {α β:Type} (f:α->Nat) (g:β->Nat):∀ (a:List α) (b:List β),bj (fun x:α × β=>f x.1+g x.2) (a.zip b)<=bj f a+bj g b
 | [],b=>by simp [bj]
 | x::a,[]=>by simp [bj]
 | x::a,y::b=>by
  have:=G1 f g a b;simp only [zip_cons_cons,bj] at *;omega
theorem wR {α:Type} (f:α->ae):∀ (l:List α) (acc:ae),(dG f acc l).length=acc.length+bj (fun x=>(f x).length) l
 | [],acc=>by simp [dG,bj]
 | x::l,acc=>by rw [dG,wR f l,aU,bj];omega
def tq (n:Nd):Nat:=n.s.length+60
mutual
theorem VN:∀ (t:T) (a:Nat),kR t=bj tq (fS a t)
 | .mk n l,a=>by rw [kR,fS,bj,zL l (a+1),tq]
theorem zL:∀ (l:List T) (a:Nat),gH l=bj tq (bO a l)
 | [],a=>rfl
 | t::r,a=>by rw [gH,bO,pX,VN t a,zL r (a+aQ t)]
end
def wi (l:List T) (i:Nat):Nat:=match l[i]? with | some t=>kR t | none=>0
theorem ZE (l:List T):wi l 0+wi l 1+wi l 2<=gH l:=by
 match l with
 | []=>simp [wi]
 | [a]=>simp only [wi,gH];simp
 | [a,b]=>simp only [wi,gH];simp
 | a::b::c::r=>simp only [wi,gH];simp;omega
theorem IB {l:List T} {f:T->ae} (h:∀ t∈l,(f t).length<=kR t) (i:Nat):((l.map f).getD i []).length<=wi l i:=by
 rw [List.getD_eq_getElem?_getD,aV];unfold wi
 cases hi:l[i]? with
 | none=>simp
 | some t=>exact h t (bF hi)
theorem Jw {l:List T} {t:T} (h:t∈l):aQ t<=aB l:=by
 induction l with
 | nil=>cases h
 | cons a l ih =>
  rw [aB]
  rcases dA h with rfl | h
  ·omega
  ·have:=ih h;omega
theorem Jv {f:T->ae}:∀ {l:List T},(∀ t∈l,(f t).length+4<=kR t)->lj (l.map f)<=gH l
 | [],_=>aM _
 | t::l,h=>by
  have L:=h t mem_cons_self
  have I:=Jv (l:=l) fun y hy=>h y (di _ hy)
  rw [List.map_cons,lj,gH];omega
theorem Vw:∀ (N:Nat) (t:T),aQ t<=N->qI t->∀ d,(kP de fV d t).length+4<=kR t/\(nY de fV d t).length<=kR t:=by
 intro N
 induction N with
 | zero=>intro t h;have:=lr t;omega
 | succ N ih =>
  intro t hN hn d;have dE:=eA t;rw [rM] at hn
  have hk:∀ a∈t.kids,∀ d,(kP de fV d a).length+4<=kR a/\(nY de fV d a).length<=kR a:=fun a ha d=>ih a (by have:=Jw ha;omega) (ky hn.2 ha) d
  have hx:=IB (l:=t.kids) (f:=de) (fun a ha=>by have:=wE (aQ a) a (aD _) (ky hn.2 ha);omega);have hb:=IB (l:=t.kids) (f:=nY de fV d) (fun a ha=>(hk a ha d).2);have h3:=ZE t.kids;have hw:=pK t;have im:=wE (aQ t) t (aD _) ((rM t).2 hn);have x0:=hx 0;have x1:=hx 1;have b1:=hb 1;have b2:=hb 2;constructor
  ·rw [NS,Ic];unfold xR;split
   ·simp only [aU,length_cons,length_nil];omega
   split
   ·simp only [aU,length_cons,length_nil];omega
   split
   ·simp only [aU,length_cons,length_nil];omega
   split
   ·split
    ·simp only [aU,length_cons,length_nil];omega
    ·simp only [aU,length_cons,length_nil];omega
   split
   ·simp only [aU,length_cons,length_nil];omega
   split
   ·simp only [aU,length_cons,length_nil];omega
   split
   ·simp only [aU,length_cons,length_nil];omega
   ·omega
  ·rw [LI,Jt]
   have:=Jv (f:=kP de fV (d+1)) (l:=t.kids) fun a ha=>(hk a ha (d+1)).1
   have e:∀ l:List ae,(fV l d).length=3+lj l:=fun l=>by
    unfold fV;rw [aU,tW];simp only [length_cons,length_nil];omega
   rw [e];omega
def wS (l:List ae):Nat:=bj (fun s=>s.length+1) l
def df (p:Src):Nat:=wS p.globals+bj (fun a:Ar=>a.name.length+1) p.arrays+bj (fun f:Fn=>f.name.length+wS f.params+1) p.fns+bj (fun n:Nd=>n.s.length+n.kids.length+1) p.nodes
structure qm (p:Src):Prop where
 arrays:∀ a∈p.arrays,-9223372036854775808<=a.size/\a.size<=9223372036854775807
 nodes:∀ n∈p.nodes,-9223372036854775808<=n.n/\n.n<=9223372036854775807
mutual
theorem fy.num {nodes:List Nd} (h:∀ n∈nodes,-9223372036854775808<=n.n/\n.n<=9223372036854775807):∀ (t:T) (a:Nat),fy nodes a t->qI t
 | .mk n l,a,hs=>by
  rw [fy] at hs;rw [qI];exact ⟨h n (bF hs.1),dC.num h l _ hs.2.2⟩
theorem dC.num {nodes:List Nd} (h:∀ n∈nodes,-9223372036854775808<=n.n/\n.n<=9223372036854775807):∀ (l:List T) (a:Nat),dC nodes a l->qJ l
 | [],a,_=>trivial
 | t::r,a,hs=>by
  rw [dC] at hs;rw [qJ];exact ⟨fy.num h t a hs.1,dC.num h r _ hs.2⟩
end
theorem Qc (l:List ae):(l.map fun y=>y.length+2).sum=bj (fun s=>s.length+2) l:=by
 induction l with
 | nil=>rfl
 | cons s l ih=>rw [List.map_cons,sum_cons,ih,bj]
theorem Hc (l:List T):gH l=bj kR l:=by
 induction l with
 | nil=>rfl
 | cons t l ih=>rw [gH,bj,ih]
theorem Sm {p:Src} {l:List T} (hn:qm p) (hs:dC p.nodes 0 l) (hz:aB l=p.nodes.length):(nR de fV p l).length<=100 * df p:=by
 have jd:=dC.num hn.nodes l 0 hs
 have e1:bj (fun s=>(g1 s).length) p.globals<=100 * wS p.globals:=np fun s _=>by simp only [g1,aU,length_cons,length_nil];omega
 have e2:bj (fun a=>(a1 a).length) p.arrays<=100 * bj (fun a:Ar=>a.name.length+1) p.arrays:=np fun a ha=>by
  have:=yJ (hn.arrays a ha);simp only [a1,aU,length_cons,length_nil];omega
 have e3:bj (fun x=>(cX de fV x).length) (p.fns.zip l)<=bj (fun x:Fn × T=>(fun f:Fn=>100 * (f.name.length+wS f.params+1)) x.1+kR x.2) (p.fns.zip l):=S1 fun x hx=>by
  have L:=(Vw (aQ x.2) x.2 (aD _) (ky jd (List.of_mem_zip hx).2) 0).2;have I:=AU x.1.params;rw [Qc] at I
  have h3:bj (fun s=>s.length+2) x.1.params<=2 * wS x.1.params:=np fun s _=>by omega
  simp only [cX,aU,length_cons,length_nil];omega
 have e4:=G1 (fun f:Fn=>100 * (f.name.length+wS f.params+1)) kR p.fns l
 have e5:bj (fun f:Fn=>100 * (f.name.length+wS f.params+1)) p.fns<=100 * bj (fun f:Fn=>f.name.length+wS f.params+1) p.fns:=np fun f _=>aD _
 have e6:bj tq p.nodes<=100 * bj (fun n:Nd=>n.s.length+n.kids.length+1) p.nodes:=np fun n _=>by unfold tq;omega
 have e7:bj kR l=bj tq p.nodes:=by rw [<-Hc,zL l 0,<-dC.all hs hz]
 unfold nR df;rw [wR,wR,wR];simp only [length_nil];have e8:=jZ e3 e4;generalize bj (fun x=>(cX de fV x).length) (p.fns.zip l)=v3 at *;generalize bj (fun s=>(g1 s).length) p.globals=v1 at *;generalize bj (fun a=>(a1 a).length) p.arrays=v2 at *;omega
theorem G6 {p:Src} {l:List T} (hs:dC p.nodes 0 l) (hz:aB l=p.nodes.length):∀ t∈l,kR t<=100 * df p/\aQ t<=df p:=fun t ht=>by
 have e6:bj tq p.nodes<=100 * bj (fun n:Nd=>n.s.length+n.kids.length+1) p.nodes:=np fun n _=>by unfold tq;omega
 have e7:bj kR l=bj tq p.nodes:=by rw [<-Hc,zL l 0,<-dC.all hs hz]
 have e8:=oA (f:=kR) ht;have e9:=Jw ht
 have W9:=uD (fun n:Nd=>n.s.length+n.kids.length+1) p.nodes fun n _=>by omega
 unfold df;omega
theorem Cm (l:List ae):l.length<=wS l:=uD _ l fun s _=>by omega
theorem N8 {l:List ae} {s:ae} (h:s∈l):s.length+1<=wS l:=oA (f:=fun s:ae=>s.length+1) h
structure Small (p:Src) (n:Nat):Prop where
 globals:p.globals.length<=n/\∀ s∈p.globals,s.length<=n
 arrays:p.arrays.length<=n/\∀ a∈p.arrays,a.name.length<=n
 fns:p.fns.length<=n/\∀ f∈p.fns,f.name.length<=n/\f.params.length<=n/\∀ s∈f.params,s.length<=n
 nodes:p.nodes.length<=n/\∀ x∈p.nodes,x.s.length<=n/\x.kids.length<=n
theorem ju (p:Src):Small p (df p):=by
 have a1:=Cm p.globals
 have a2:=uD (fun a:Ar=>a.name.length+1) p.arrays fun a _=>by omega
 have a3:=uD (fun f:Fn=>f.name.length+wS f.params+1) p.fns fun a _=>by omega
 have a4:=uD (fun n:Nd=>n.s.length+n.kids.length+1) p.nodes fun a _=>by omega
 unfold df;refine ⟨⟨by omega,fun s hs=>?_⟩,⟨by omega,fun a ha=>?_⟩,⟨by omega,fun f hf=>?_⟩,⟨by omega,fun n hn=>?_⟩⟩
 ·have:=N8 hs;omega
 ·have:=oA (f:=fun a:Ar=>a.name.length+1) ha;omega
 ·have:=oA (f:=fun f:Fn=>f.name.length+wS f.params+1) hf;refine ⟨by omega,by have:=Cm f.params;omega,fun s hs=>by have:=N8 hs;omega⟩
 ·have:=oA (f:=fun n:Nd=>n.s.length+n.kids.length+1) hn;exact ⟨by omega,by omega⟩
structure Au (st:PS) (n:Nat):Prop where
 globals:st.globals.length<=n
 arrays:st.arrays.length<=n
 fns:st.fns.length<=n
 params:∀ x∈st.fns,x.2.length<=n
theorem MY:∀ (f:Nat) (acc:List ae) (p:RS) (l:List ae) (q:RS),pF f acc p=some (l,q)->l.length<=acc.length+f
 | 0,_,_,_,_,h=>by cases h
 | f+1,acc,p,l,q,h=>by
  rw [pF] at h;split at h
  ·have:=MY f _ _ l q h;rw [aU,length_cons,length_nil] at this;omega
  ·cases h;omega
theorem Au.up {st:PS} {n:Nat} (h:Au st n):Au st (n+1):=by
 obtain ⟨a,b,c,d⟩:=h;exact ⟨by omega,by omega,by omega,fun x hx=>by have:=d x hx;omega⟩
theorem Wp {f n:Nat} {p q:RS} {st ey:PS} (hf:f<=n) (h:iW f p st=some (q,ey)) (hs:Au st n):Au ey (n+1):=by
 have key:=hs.up;obtain ⟨a,b,c,d⟩:=hs;unfold iW at h;split at h
 ·split at h
  ·split at h
   ·cases h;exact ⟨by simp;omega,by simp;omega,by simp;omega,fun x hx=>by have:=d x hx;omega⟩
   ·cases h;exact key
  ·cases h;exact ⟨by simp;omega,by simp;omega,by simp;omega,fun x hx=>by have:=d x hx;omega⟩
 ·split at h
  ·cases hm:pF f [] (want (bD p.next) [40]) with
   | none=>rw [hm] at h;cases h
   | some r =>
    obtain ⟨l,q1⟩:=r;rw [hm] at h;simp only at h;have hl:=MY _ _ _ _ _ hm;split at h
    ·split at h
     ·cases h
     ·cases h;refine ⟨by simp;omega,by simp;omega,by simp;omega,fun x hx=>?_⟩
      rcases oI hx with hx | hx
      ·have:=d x hx;omega
      ·rw [mem_singleton] at hx;subst hx;simp at hl |-;omega
    ·cases h;exact key
  ·cases h;exact key
theorem M0 {f:Nat}:∀ (aaL n:Nat) (p q:RS) (st ey:PS),f<=n->n8 aaL f p st=some (q,ey)->Au st n->Au ey (n+aaL)
 | 0,n,p,q,st,ey,_,h,_=>by cases h
 | aaL+1,n,p,q,st,ey,hf,h,hs=>by
  rw [n8] at h;split at h
  ·cases hw:iW f p st with
   | none=>rw [hw] at h;cases h
   | some r =>
    obtain ⟨q1,s1⟩:=r;rw [hw] at h;simp only at h;have:=M0 aaL (n+1) q1 q s1 ey aq h (Wp hf hw hs);rw [show n+(aaL+1)=n+1+aaL by omega];exact this
  ·cases h;obtain ⟨a,b,c,d⟩:=hs;exact ⟨by omega,by omega,by omega,fun x hx=>by have:=d x hx;omega⟩
mutual
theorem O0:∀ (t:T) (a:Nat),∀ n∈fS a t,n.kids.length<=aQ t
 | .mk m l,a,n,h=>by
  rw [fS] at h;rw [aQ]
  rcases dA h with rfl | h
  ·simp only [dy];have:=bW l;omega
  ·have:=AE l (a+1) n h;omega
theorem AE:∀ (l:List T) (a:Nat),∀ n∈bO a l,n.kids.length<=aB l
 | [],a,n,h=>by rw [bO] at h;cases h
 | t::r,a,n,h=>by
  rw [bO] at h;rw [aB]
  rcases oI h with h | h
  ·have:=O0 t a n h;omega
  ·have:=AE r _ n h;omega
end
end Go.Im
namespace Go.Sp
open Go.Xp
structure EO (p:Src) (ls:List (List S)):Prop where
 len:ls.length=p.fns.length
 at_:∀ (i:Nat) f l,p.fns[i]?=some f->ls[i]?=some l->0<=f.body/\S.db l=true/\wt (bU l)<=1000000000/\∃ t,sub p.nodes (fN p.nodes) f.body.toNat=some t/\er t=bU l
theorem SE (a:E) (ho:a.ok=true):(a.bu).length+4<=wt a.tree:=(E.len a ho).1
theorem RT {l:List S} (ho:S.db l=true) (hw:wt (bU l)<=1000000000) :
  ∃ ts t q f,Go.Sp.jx (fA E.bu l)=some ts/\(fA E.bu l).length<=1000000000/\ts.length<=1000000000/\1+f<=1099511627776/\mS f (.block 1) ⟨ts,0,(fA E.bu l).length,0,0⟩=some (t,q)/\q.l=ts/\((q.code=0/\q.i=ts.length/\eU l 1=true)\/(q.code≠0/\eU l 1=false)):=by
 have hlen:=tB E.bu SE ho;generalize hx:fA E.bu l=x at *;obtain ⟨ts,L,I⟩:=(I5 ho).all;rw [hx] at I;have h3:=I.len;have DS:On ⟨ts,0,x.length,0,0⟩ ts:=⟨rfl,aM _,rfl,I.kinds⟩;have cr:rs (x.length:Int) (nz ts) (.block 1) ts≠.error bc:=wP;obtain ⟨t,q,h4,h5⟩:=(js (nz ts)).block 1 ts _ DS cr;have Q5:=EZ (e:=(x.length:Int)) (d:=1) (rest:=[]) ho L;rw [cq] at Q5
 change jP _ q t (block (x.length:Int) 1 ts) at h5
 refine ⟨ts,t,q,KF (nz ts),I.all,by omega,by omega,by unfold KF nz;omega,h4 _ (aD _),?_⟩
 cases hf:eU l 1 with
 | true =>
  obtain ⟨t',_,h6⟩:=Q5.1 hf;rw [h6] at h5;obtain ⟨_,h7,h8,_⟩:=h5;have h8:q.l=ts:=h8;refine ⟨h8,.inl ⟨h7.code,?_,rfl⟩⟩;have hr:=congrArg List.length h7.rest;have hle:=h7.le;rw [iK] at hr;rw [h8] at hr hle;simp only [length_nil] at hr;omega
 | false =>
  obtain ⟨pos,h6⟩:=Q5.2 hf;rw [h6] at h5;exact ⟨h5.2.2.2.1,.inr ⟨bS.err h5,rfl⟩⟩
end Go.Sp
namespace Go.Im
open Go.Xp Go.Sp
def KT (p:Src) (x:ae):Bool:=match nS x (x.length+1) 0 [] with
 | none=>false
 | some (ts,c,z)=>if c≠0 then false else match n8 (ts.length+1) (40 * ts.length+100) ⟨ts,0,(x.length:Int),0,0⟩ .empty with
  | none=>false
  | some (q,st)=>if q.code≠0 then false else if aB st.trees > 800 then false else same p st
def fI (p:Src):Bool:=if p.nodes.length > 800 then false else match j0 p.nodes p.fns 0 [] with
 | none=>false
 | some (l,e)=>if e≠p.nodes.length then false else if l.all gV=false then false else KT p (nR de fV p l)
theorem A5 {p:Src} {x:ae} {ts:List Tok} {c z:Int} {q:RS} {st:PS} (h:Reads x ts c z q st):KT p x=if c≠0 then false else if q.code≠0 then false else if aB st.trees > 800 then false else same p st:=by
 unfold KT;rw [h.lex];simp only;rw [h.read]
theorem Yj {p:Src} {l:List T} {ls:List (List S)} (h:dU p l) (hf:Forms l ls):fI p=ls.all fun b=>eU b 1:=by
 unfold fI;have h8:=h.few;rw [M aq,h.Bg];simp only;rw [M (by simp),M (by rw [h.k];decide)];obtain ⟨ts,c,z,q,st,hr⟩:=reads (nR de fV p l);obtain ⟨L,I,h3⟩:=Lb h hf hr;rw [A5 hr,M (by simpa using L)]
 cases hb:ls.all fun b=>eU b 1 with
 | false=>rw [ab (h3 hb)]
 | true =>
  obtain ⟨k1,k2,k3⟩:=I hb;rw [M (by simpa using k1),M aq,k3]
theorem lA {p:Src} (h:fI p=true):∃ l,dU p l:=by
 unfold fI at h
 by_cases h8:p.nodes.length > 800
 ·rw [ab h8] at h;cases h
 rw [M h8] at h
 cases hb:j0 p.nodes p.fns 0 [] with
 | none=>rw [hb] at h;cases h
 | some y =>
  obtain ⟨l,e⟩:=y;rw [hb] at h;simp only at h
  by_cases he:e=p.nodes.length
  ·subst he;rw [M (by simp)] at h
   by_cases hk:l.all gV=false
   ·rw [ab hk] at h;cases h
   rw [M hk] at h;obtain ⟨ts,c,z,q,st,hr⟩:=reads (nR de fV p l);rw [A5 hr] at h;split at h
   ·cases h
   split at h
   ·cases h
   ·rename_i hc;split at h
    ·cases h
    ·exact ⟨l,KU aq hb (hr.ok (by simpa using hc)).1 h⟩
  ·rw [ab he] at h;cases h
theorem Yi {p:Src} (h:oV p=some false):fI p=false:=by
 cases hf:fI p with
 | false=>rfl
 | true =>
  obtain ⟨l,L⟩:=lA hf;rw [L.oV] at h;cases h
theorem dC.ix {nodes:List Nd}:∀ (l:List T) (a i:Nat) (t:T),dC nodes a l->l[i]?=some t->fy nodes (a+aB (l.take i)) t
 | [],a,i,t,_,h=>by simp at h
 | u::r,a,0,t,h,hi=>by
  cases hi;rw [dC] at h;exact h.1
 | u::r,a,i+1,t,h,hi=>by
  rw [dC] at h;have:=dC.ix r (a+aQ u) i t h.2 (by simpa using hi);rw [take_succ_cons,aB,<-fP];exact this
mutual
theorem Ov:∀ t:T,wt t<=kR t
 | .mk n l=>by have:=He l;rw [wt,kR];omega
theorem He:∀ l:List T,fj l<=gH l
 | []=>aD _
 | t::r=>by have:=Ov t;have:=He r;rw [fj,gH];omega
end
theorem LK {p:Src} {l:List T} {ls:List (List S)} (h:dU p l) (hf:Forms l ls) (hw:df p<=1048576):EO p ls:=by
 have hl:=eT.len h.fns;refine ⟨by rw [hf.len];omega,fun i f b L I=>?_⟩;have hi:=(bp I).1;have hlen:=hf.len
 have ht:l[i]?=some (l[i]'aq):=by simp [<-hlen,hi]
 obtain ⟨h3,h4⟩:=hf.at_ i _ b ht I;obtain ⟨h5,h6⟩:=eT.at_ h.fns i f _ L ht;have h7:=dC.ix l 0 i _ h.st ht;rw [cL] at h5 h7;have hm:=bF ht;have h8:=G6 h.st h.len _ hm;have h9:=Ov (l[i]'aq);have mc:=fy.le _ _ h7;refine ⟨by omega,h3,by rw [<-h4,RE];omega,_,?_,h4⟩;rw [h5,qU];exact (wB _).1 _ _ h7 (by unfold fN;omega)
theorem oD {α:Type} (f:α->Nat) (l:List α) (k:Nat):bj f (l.take k)<=bj f l:=by
 have:bj f l=bj f (l.take k)+bj f (l.drop k):=by rw [<-pX,take_append_drop]
 omega
def sE (w left:Nat):Int:=if w<=left then ((left - w:Nat):Int) else -1
theorem gE {w left:Nat} (h:w<=left):sE w left=((left - w:Nat):Int):=by unfold sE;rw [ab h]
theorem dY {w left:Nat} (h:left < w):sE w left = -1:=by unfold sE;rw [M aq]
theorem oC {α:Type} (w:α->Nat) (l:List α):bj (fun x=>w x+1) l=l.length+bj w l:=by
 induction l with
 | nil=>rfl
 | cons x l ih=>rw [bj,ih,bj,length_cons];omega
theorem oB {α:Type} {w:α->Nat} {l:List α} {k:Nat} {x:α} (h:l[k]?=some x):bj w (l.take (k+1))=bj w (l.take k)+w x:=by
 have:l.take (k+1)=l.take k++[x]:=by rw [cm,h];rfl
 rw [this,pX,bj,bj];rfl
theorem lY {α β:Type} {f:α->β} {l:List α} {k:Nat} {x:α} {Z:β} (h:l[k]?=some x):((l.take k).map f++List.replicate (l.length - k) Z).set k (f x)=(l.take (k+1)).map f++List.replicate (l.length - (k+1)) Z:=by
 have hk:=(bp h).1
 have ht:l.take (k+1)=l.take k++[x]:=by rw [cm,h];rfl
 have hl:((l.take k).map f).length=k:=by rw [bP,cS];omega
 rw [show l.length - k=(l.length - (k+1))+1 by omega,List.replicate_succ,List.set_append_right _ _ aq,hl,iJ,List.set_cons_zero,ht,iL];simp
theorem lX {α β:Type} {f:α->β} {l:List α} {k:Nat} {Z:β} (h:k<=l.length):((l.take k).map f++List.replicate (l.length - k) Z).length=l.length:=by
 rw [aU,bP,cS,List.length_replicate];omega
theorem lW {α β:Type} {f:α->β} {l:List α} {Z:β}:(l.take l.length).map f++List.replicate (l.length - l.length) Z=l.map f:=by
 rw [b7,iJ];simp
theorem Du {p:Src} {l:List T} (h:dU p l):∀ a∈p.arrays,0<=a.size/\a.size<=2147483647:=fun a ha=>by
 have:=gK.1 h.arrays a ha;unfold pd at this;simp only [aH,Bool.not_eq_true',decide_eq_false_iff_not] at this;omega
end Go.Im
