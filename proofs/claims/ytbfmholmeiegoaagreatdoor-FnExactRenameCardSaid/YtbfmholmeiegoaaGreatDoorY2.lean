/- Part 2 of proofs that are told in their last texts. -/
import Derived.Test.YtbfmholmeiegoaaGreatDoorY1
open List (all_cons cons_append drop_left find?_eq_none flatMap_cons foldl_cons getElem?_take length_cons length_nil map_map mem_append mem_cons_self mem_singleton nil_append sum_cons tail_cons take_append_drop take_succ_cons take_zero zip_cons_cons)
set_option linter.unusedVariables false
set_option linter.unusedSimpArgs false
set_option maxRecDepth 100000
namespace Go.Xp
open Go.Sp (bf eT)
section
variable {e:Int} {d:Nat} {ts rest:List Tok} {Q:T->Prop} {b:Bool}
theorem S.head {s:S} (ho:s.ok=true) (ht:ts.map kf=s.tk):∃ t r,ts=t::r/\∀ rest,sign (t::rest) 0≠fi/\sign (t::rest) 0≠[125]:=by
 cases s with
 | set s a =>
  rw [S.tk] at ht;obtain ⟨t,r,rfl,F,_⟩:=map_cons ht;obtain ⟨F,_⟩:=rz F;exact ⟨t,r,rfl,fun rest=>⟨jN F aw,jN F aw⟩⟩
 | put s a b =>
  rw [S.tk] at ht;obtain ⟨t,r,rfl,F,_⟩:=map_cons ht;obtain ⟨F,_⟩:=rz F;exact ⟨t,r,rfl,fun rest=>⟨jN F aw,jN F aw⟩⟩
 | if1 c b =>
  rw [S.tk] at ht;obtain ⟨t,r,rfl,F,_⟩:=map_cons ht;exact ⟨t,r,rfl,fun rest=>by rw [uy F];decide⟩
 | if2 c b b2 =>
  rw [S.tk] at ht;obtain ⟨t,r,rfl,F,_⟩:=map_cons ht;exact ⟨t,r,rfl,fun rest=>by rw [uy F];decide⟩
 | while_ c b =>
  rw [S.tk] at ht;obtain ⟨t,r,rfl,F,_⟩:=map_cons ht;exact ⟨t,r,rfl,fun rest=>by rw [uy F];decide⟩
 | ret a =>
  rw [S.tk] at ht;obtain ⟨t,r,rfl,F,_⟩:=map_cons ht;exact ⟨t,r,rfl,fun rest=>by rw [uy F];decide⟩
 | var s a =>
  rw [S.tk] at ht;obtain ⟨t,r,rfl,F,_⟩:=map_cons ht;exact ⟨t,r,rfl,fun rest=>by rw [uy F];decide⟩
 | do_ a =>
  simp only [S.ok] at ho;obtain ⟨k0,r0,hh,hf⟩:=E.head a ho;rw [S.tk,hh] at ht;obtain ⟨t,r,rfl,F,_⟩:=map_cons ht;refine ⟨t,r,rfl,fun rest=>?_⟩
  rcases BM (r:=rest) (by rw [F];exact hf) with h | h | h | h | h <;> (rw [h];decide)
def sR (l:List S):Prop:=∀ (e:Int) (d:Nat) (acc:List T) (ts rest:List Tok) (u:Tok),S.db l=true->ts.map kf=S.oh l->u.kind=3->u.s=[125] ->
 (S.fits l d=true->∃ ys,aV ys=S.trees l/\Eb e d acc (ts++u::rest) (.ok (acc++ys,rest)))/\(S.fits l d=false->∃ pos,Eb e d acc (ts++u::rest) (.error (9,pos)))
theorem NI:sR []:=by
 intro e d acc ts rest u _ ht hu gX
 have:ts=[]:=by simpa [S.oh] using ht
 subst this;refine ⟨fun _=>⟨[],rfl,1,fun f hf=>?_⟩,fun h=>by simp [S.fits] at h⟩;obtain ⟨f,rfl⟩:∃ g,f=g+1:=⟨f - 1,by omega⟩;rw [rs.body,ab (by exact ve hu gX),cY];rfl
theorem LL {a:S} {l:List S} (Ca:sS a) (Cl:sR l):sR (a::l):=by
 intro e d acc ts rest u ho ht hu gX;simp only [S.db,aC] at ho;rw [S.oh] at ht;obtain ⟨A,B,rfl,h3,h4⟩:=dT ht;obtain ⟨t,r,rfl,hh⟩:=S.head ho.1 h3
 have ct:sign (B++u::rest) 0≠fi:=by
  cases l with
  | nil =>
   have:B=[]:=by simpa [S.oh] using h4
   subst this;rw [nil_append,ve hu gX];decide
  | cons a' l' =>
   simp only [S.db,aC] at ho;rw [S.oh] at h4;obtain ⟨A',B',rfl,h5,h6⟩:=dT h4;obtain ⟨t',r',rfl,hh'⟩:=S.head ho.2.1 h5;exact (hh' _).1
 have hx:=Ca e d (t::r) (B++u::rest) ho.1 h3 ct
 have he:t::r++B++u::rest=t::r++(B++u::rest):=by simp
 have hs:sign (t::r++(B++u::rest)) 0≠[125]:=(hh _).2;rw [he,S.fits]
 cases hfa:a.fit d with
 | false =>
  refine ⟨fun hb=>(by simp at hb),fun _=>?_⟩;obtain ⟨pos,f0,h0⟩:=hx.2 hfa;refine ⟨pos,f0+1,fun f hf=>?_⟩;obtain ⟨f,rfl⟩:∃ g,f=g+1:=⟨f - 1,by omega⟩;rw [rs.body,L hs,h0 f aq]
 | true =>
  obtain ⟨ta,k1,f0,h0⟩:=hx.1 hfa;have hl:=Cl e d (acc++[ta]) B rest u ho.2 h4 hu gX;refine ⟨fun hb=>?_,fun hb=>?_⟩
  ·obtain ⟨ys,k3,cy,k4⟩:=hl.1 (by simpa using hb);refine ⟨ta::ys,by rw [aV,k1,k3,S.trees],f0+cy+1,fun f hf=>?_⟩;obtain ⟨f,rfl⟩:∃ g,f=g+1:=⟨f - 1,by omega⟩;rw [rs.body,L hs,h0 f aq];simp only;rw [k4 f aq,cS];rfl
  ·obtain ⟨pos,cy,k3⟩:=hl.2 (by simpa using hb);refine ⟨pos,f0+cy+1,fun f hf=>?_⟩;obtain ⟨f,rfl⟩:∃ g,f=g+1:=⟨f - 1,by omega⟩;rw [rs.body,L hs,h0 f aq];exact k3 f aq
theorem sR.blk {l:List S} (C:sR l) {A:List Tok} {u w:Tok} (ho:S.db l=true) (ht:A.map kf=S.oh l) (hu:u.kind=3) (gX:u.s=[123]) (hw:w.kind=3) (Fk:w.s=[125]) :
  Sx e (.block d) (u::(A++w::rest)) rest (fun t=>er t=.mk ⟨14,0,0,[],[]⟩ (S.trees l)) (decide (d<=60)&&S.fits l (d+1)):=by
 have hb:=C e (d+1) [] A rest w ho ht hw Fk
 by_cases hd:d<=60
 ·have:(decide (d<=60)&&S.fits l (d+1))=S.fits l (d+1):=by simp [hd]
  rw [this];refine ⟨fun h=>?_,fun h=>?_⟩
  ·obtain ⟨ys,k1,f0,h0⟩:=hb.1 h;refine ⟨one 14 u.at_ [] ys,by show er _=_;rw [eI,k1],f0+1,fun f hf=>?_⟩;obtain ⟨f,rfl⟩:∃ g,f=g+1:=⟨f - 1,by omega⟩;rw [rs,L aq,sy hu gX];simp only;rw [h0 f aq];rfl
  ·obtain ⟨pos,f0,h0⟩:=hb.2 h;refine ⟨pos,f0+1,fun f hf=>?_⟩;obtain ⟨f,rfl⟩:∃ g,f=g+1:=⟨f - 1,by omega⟩;rw [rs,L aq,sy hu gX];simp only;rw [h0 f aq]
 ·have:(decide (d<=60)&&S.fits l (d+1))=false:=by simp [hd]
  rw [this];exact ⟨fun hb=>(by cases hb),fun _=>⟨_,tS fun f=>by rw [rs,ab aq]⟩⟩
theorem y8 {j:si} {x:Rd T} {jV:List Tok} {j':si} {x':Rd T} (h:Es e j ts x) (hs:∀ f,rs e f j ts=x->rs e (f+1) j' jV=x'):Es e j' jV x':=by
 obtain ⟨f0,h0⟩:=h;refine ⟨f0+1,fun f hf=>?_⟩;obtain ⟨f,rfl⟩:∃ g,f=g+1:=⟨f - 1,by omega⟩;exact hs f (h0 f aq)
theorem J0 {j j2:si} {x x2:Rd T} {jV xz:List Tok} {j':si} {x':Rd T} (h:Es e j ts x) (I:Es e j2 xz x2) (hs:∀ f,rs e f j ts=x->rs e f j2 xz=x2->rs e (f+1) j' jV=x'):Es e j' jV x':=by
 obtain ⟨f0,h0⟩:=h;obtain ⟨cy,F⟩:=I;refine ⟨f0+cy+1,fun f hf=>?_⟩;obtain ⟨f,rfl⟩:∃ g,f=g+1:=⟨f - 1,by omega⟩;exact hs f (h0 f aq) (F f aq)
theorem Q5 (c:E) {l:List S} (C:sR l):sS (.if1 c l):=by
 intro e d ts rest ho ht eB;simp only [S.ok,aC] at ho;rw [S.tk] at ht;obtain ⟨v,r,rfl,F,I⟩:=map_cons ht;obtain ⟨u,r,rfl,h3,h4⟩:=map_cons I;obtain ⟨A,r,rfl,h5,h6⟩:=dT h4;obtain ⟨w,r,rfl,h7,h8⟩:=map_cons h6;obtain ⟨x,r,rfl,h9,mF⟩:=map_cons h8;obtain ⟨B,r,rfl,qd,pO⟩:=dT mF;obtain ⟨y,rfl,eW⟩:=jx pO;obtain ⟨F,dq⟩:=eY F;obtain ⟨h3,lF⟩:=eY h3;obtain ⟨h7,lZ⟩:=eY h7;obtain ⟨h9,E9⟩:=eY h9;obtain ⟨eW,BP⟩:=eY eW
 have he:v::u::(A++w::x::(B++[y]))++rest=v::u::(A++w::(x::(B++y::rest))):=by simp
 have hi:=w6 (e:=e) (d:=d+1) (rest:=x::(B++y::rest)) ho.1 h5 h3 lF h7 lZ (by simp);have hb:=C.blk (e:=e) (d:=d+1) (rest:=rest) ho.2 qd h9 E9 eW BP;have hv:=ve (rest:=u::(A++w::(x::(B++y::rest)))) F dq;rw [he,S.fit]
 refine qW fun hd=>?_
 cases hfa:ri c (d+1) with
 | false =>
  refine ⟨fun hb=>(by simp at hb),fun _=>?_⟩;obtain ⟨pos,k1⟩:=hi.2 hfa;refine ⟨pos,tS fun f=>?_⟩;rw [rs,L aq];simp only;rw [L (by rw [hv];decide),ab (.inl hv),tail_cons,k1]
 | true =>
  obtain ⟨tc,k1,k2⟩:=hi.1 hfa;rw [Bool.true_and];refine ⟨fun h=>?_,fun h=>?_⟩
  ·obtain ⟨tb,k3,k4⟩:=hb.1 h;refine ⟨one 9 v.at_ [] [tc,tb],by show er _=_;rw [eI,aV,aV,k1,k3,S.tree];rfl,y8 k4 fun f k4=>?_⟩;rw [rs,L aq];simp only;rw [L (by rw [hv];decide),ab (.inl hv),tail_cons,k2];simp only;rw [k4];simp only;rw [ab hv,L eB];rfl
  ·obtain ⟨pos,k3⟩:=hb.2 h;refine ⟨pos,y8 k3 fun f k3=>?_⟩;rw [rs,L aq];simp only;rw [L (by rw [hv];decide),ab (.inl hv),tail_cons,k2];simp only;rw [k3]
theorem LN (c:E) {l:List S} (C:sR l):sS (.while_ c l):=by
 intro e d ts rest ho ht eB;simp only [S.ok,aC] at ho;rw [S.tk] at ht;obtain ⟨v,r,rfl,F,I⟩:=map_cons ht;obtain ⟨u,r,rfl,h3,h4⟩:=map_cons I;obtain ⟨A,r,rfl,h5,h6⟩:=dT h4;obtain ⟨w,r,rfl,h7,h8⟩:=map_cons h6;obtain ⟨x,r,rfl,h9,mF⟩:=map_cons h8;obtain ⟨B,r,rfl,qd,pO⟩:=dT mF;obtain ⟨y,rfl,eW⟩:=jx pO;obtain ⟨F,dq⟩:=eY F;obtain ⟨h3,lF⟩:=eY h3;obtain ⟨h7,lZ⟩:=eY h7;obtain ⟨h9,E9⟩:=eY h9;obtain ⟨eW,BP⟩:=eY eW
 have he:v::u::(A++w::x::(B++[y]))++rest=v::u::(A++w::(x::(B++y::rest))):=by simp
 have hi:=w6 (e:=e) (d:=d+1) (rest:=x::(B++y::rest)) ho.1 h5 h3 lF h7 lZ (by simp);have hb:=C.blk (e:=e) (d:=d+1) (rest:=rest) ho.2 qd h9 E9 eW BP;have hv:=ve (rest:=u::(A++w::(x::(B++y::rest)))) F dq;rw [he,S.fit]
 refine qW fun hd=>?_
 cases hfa:ri c (d+1) with
 | false =>
  refine ⟨fun hb=>(by simp at hb),fun _=>?_⟩;obtain ⟨pos,k1⟩:=hi.2 hfa;refine ⟨pos,tS fun f=>?_⟩;rw [rs,L aq];simp only;rw [L (by rw [hv];decide),ab (.inr hv),tail_cons,k1]
 | true =>
  obtain ⟨tc,k1,k2⟩:=hi.1 hfa;rw [Bool.true_and];refine ⟨fun h=>?_,fun h=>?_⟩
  ·obtain ⟨tb,k3,k4⟩:=hb.1 h;refine ⟨one 10 v.at_ [] [tc,tb],by show er _=_;rw [eI,aV,aV,k1,k3,S.tree];rfl,y8 k4 fun f k4=>?_⟩;rw [rs,L aq];simp only;rw [L (by rw [hv];decide),ab (.inr hv),tail_cons,k2];simp only;rw [k4];simp only;rw [L (by rw [hv];decide)];rfl
  ·obtain ⟨pos,k3⟩:=hb.2 h;refine ⟨pos,y8 k3 fun f k3=>?_⟩;rw [rs,L aq];simp only;rw [L (by rw [hv];decide),ab (.inr hv),tail_cons,k2];simp only;rw [k3]
theorem Q6 (c:E) {l l2:List S} (C:sR l) (C2:sR l2):sS (.if2 c l l2):=by
 intro e d ts rest ho ht eB;simp only [S.ok,aC] at ho;rw [S.tk] at ht;obtain ⟨v,r,rfl,F,I⟩:=map_cons ht;obtain ⟨u,r,rfl,h3,h4⟩:=map_cons I;obtain ⟨A,r,rfl,h5,h6⟩:=dT h4;obtain ⟨w,r,rfl,h7,h8⟩:=map_cons h6;obtain ⟨x,r,rfl,h9,mF⟩:=map_cons h8;obtain ⟨B,r,rfl,qd,pO⟩:=dT mF;obtain ⟨y,r,rfl,eW,CK⟩:=map_cons pO;obtain ⟨z,r,rfl,WC,h16⟩:=map_cons CK;obtain ⟨x2,r,rfl,WD,h18⟩:=map_cons h16;obtain ⟨B2,r,rfl,h19,h20⟩:=dT h18;obtain ⟨y2,rfl,Kb⟩:=jx h20;obtain ⟨F,dq⟩:=eY F;obtain ⟨h3,lF⟩:=eY h3;obtain ⟨h7,lZ⟩:=eY h7;obtain ⟨h9,E9⟩:=eY h9;obtain ⟨eW,BP⟩:=eY eW;obtain ⟨WC,aaL⟩:=eY WC;obtain ⟨WD,aaM⟩:=eY WD;obtain ⟨Kb,aaN⟩:=eY Kb
 have he:v::u::(A++w::x::(B++y::z::x2::(B2++[y2])))++rest=v::u::(A++w::(x::(B++y::(z::(x2::(B2++y2::rest)))))):=by simp
 have hi:=w6 (e:=e) (d:=d+1) (rest:=x::(B++y::(z::(x2::(B2++y2::rest))))) ho.1 h5 h3 lF h7 lZ (by simp);have hb:=C.blk (e:=e) (d:=d+1) (rest:=z::(x2::(B2++y2::rest))) ho.2.1 qd h9 E9 eW BP;have eA:=C2.blk (e:=e) (d:=d+1) (rest:=rest) ho.2.2 h19 WD aaM Kb aaN;have hv:=ve (rest:=u::(A++w::(x::(B++y::(z::(x2::(B2++y2::rest))))))) F dq;have hz:=ve (rest:=x2::(B2++y2::rest)) WC aaL;rw [he,S.fit]
 refine qW fun hd=>?_
 cases hfa:ri c (d+1) with
 | false =>
  refine ⟨fun hb=>(by simp at hb),fun _=>?_⟩;obtain ⟨pos,k1⟩:=hi.2 hfa;refine ⟨pos,tS fun f=>?_⟩;rw [rs,L aq];simp only;rw [L (by rw [hv];decide),ab (.inl hv),tail_cons,k1]
 | true =>
  obtain ⟨tc,k1,k2⟩:=hi.1 hfa;rw [Bool.true_and]
  cases hfb:(decide (d+1<=60)&&S.fits l (d+2)) with
  | false =>
   refine ⟨fun hb=>(by simp at hb),fun _=>?_⟩;obtain ⟨pos,k3⟩:=hb.2 hfb;refine ⟨pos,y8 k3 fun f k3=>?_⟩;rw [rs,L aq];simp only;rw [L (by rw [hv];decide),ab (.inl hv),tail_cons,k2];simp only;rw [k3]
  | true =>
   obtain ⟨tb,k3,k4⟩:=hb.1 hfb;rw [Bool.true_and];refine ⟨fun h=>?_,fun h=>?_⟩
   ·obtain ⟨tb2,k5,k6⟩:=eA.1 h;refine ⟨one 9 v.at_ [] [tc,tb,tb2],by show er _=_;rw [eI,aV,aV,aV,k1,k3,k5,S.tree];rfl,J0 k4 k6 fun f k4 k6=>?_⟩;rw [rs,L aq];simp only;rw [L (by rw [hv];decide),ab (.inl hv),tail_cons,k2];simp only;rw [k4];simp only;rw [ab hv,ab hz,tail_cons,k6];rfl
   ·obtain ⟨pos,k5⟩:=eA.2 h;refine ⟨pos,J0 k4 k5 fun f k4 k5=>?_⟩;rw [rs,L aq];simp only;rw [L (by rw [hv];decide),ab (.inl hv),tail_cons,k2];simp only;rw [k4];simp only;rw [ab hv,ab hz,tail_cons,k5]
end
mutual
theorem coreS:∀ (s:S),sS s
 | .set s a=>Ra s a
 | .put s a b=>Q8 s a b
 | .if1 c b=>Q5 c (Ad b)
 | .if2 c b b2=>Q6 c (Ad b) (Ad b2)
 | .while_ c b=>LN c (Ad b)
 | .ret a=>Q9 a
 | .do_ a=>UD a
 | .var s a=>Rb s a
theorem Ad:∀ (l:List S),sR l
 | []=>NI
 | a::l=>LL (coreS a) (Ad l)
end
def LI (l:List S):List K:=kS [123]::(S.oh l++[kS [125]])
def bU (l:List S):T:=.mk ⟨14,0,0,[],[]⟩ (S.trees l)
def fw (l:List S) (d:Nat):Bool:=decide (d<=60)&&S.fits l (d+1)
theorem Z7 (e:Int):∀ f,(∀ j ts,rs e f j ts=.error bd\/rs e (f+1) j ts=rs e f j ts)/\(∀ d acc ts,rs.body e f d acc ts=.error bd\/rs.body e (f+1) d acc ts=rs.body e f d acc ts):=by
 intro f
 induction f with
 | zero=>exact ⟨fun j ts=>.inl (by simp [rs]),fun d acc ts=>.inl (by simp [rs.body])⟩
 | succ f ih =>
  obtain ⟨i1,i2⟩:=ih;refine ⟨fun j ts=>?_,fun d acc ts=>?_⟩
  ·cases j with
   | block d =>
    rw [rs,rs];split
    ·exact .inr rfl
    ·cases aW e [123] ts with
     | error x=>exact .inr rfl
     | ok r =>
      simp only
      rcases i2 (d+1) [] r with h | h
      ·left;rw [h]
      ·rw [h];exact .inr rfl
   | stmt d =>
    rw [rs,rs];split
    ·exact .inr rfl
    ·simp only;split
     ·exact .inr rfl
     ·split
      ·cases inner e (d+1) [40] [41] ts.tail with
       | error x=>exact .inr rfl
       | ok y =>
        obtain ⟨c,r⟩:=y;simp only
        rcases i1 (.block (d+1)) r with h | h
        ·left;rw [h]
        ·rw [h]
         cases rs e f (.block (d+1)) r with
         | error x=>exact .inr rfl
         | ok y =>
          obtain ⟨b,r⟩:=y;simp only;split
          ·split
           ·rcases i1 (.block (d+1)) r.tail with h | h
            ·left;rw [h]
            ·rw [h];exact .inr rfl
           ·exact .inr rfl
          ·exact .inr rfl
      ·exact .inr rfl
  ·rw [rs.body,rs.body];split
   ·exact .inr rfl
   ·rcases i1 (.stmt d) ts with h | h
    ·left;rw [h]
    ·rw [h]
     cases rs e f (.stmt d) ts with
     | error x=>exact .inr rfl
     | ok y=>exact i2 _ _ _
theorem Vt {e:Int} {f f':Nat} {j:si} {ts:List Tok} (h:rs e f j ts≠.error bd) (hf:f<=f'):rs e f' j ts=rs e f j ts:=by
 obtain ⟨k,rfl⟩:=Nat.exists_eq_add_of_le hf;clear hf
 induction k with
 | zero=>rfl
 | succ k ih =>
  rcases (Z7 e (f+k)).1 j ts with F | F
  ·rw [ih] at F;exact absurd F h
  ·rw [<-gn,F,ih]
theorem Gt {l:List S} {e:Int} {d:Nat} {ts rest:List Tok} (ho:S.db l=true) (ht:ts.map kf=LI l) :
  (fw l d=true->∃ t,er t=bU l/\block e d (ts++rest)=.ok (t,rest))/\(fw l d=false->∃ pos,block e d (ts++rest)=.error (9,pos)):=by
 obtain ⟨u,r,rfl,F,I⟩:=map_cons ht;obtain ⟨A,r,rfl,h3,h4⟩:=dT I;obtain ⟨w,rfl,h5⟩:=jx h4;obtain ⟨F,dq⟩:=eY F;obtain ⟨h5,Ts⟩:=eY h5;have hb:=(Ad l).blk (e:=e) (d:=d) (rest:=rest) ho h3 F dq h5 Ts
 have he:u::(A++[w])++rest=u::(A++w::rest):=by simp
 rw [he]
 have key:∀ {x:Rd T},Es e (.block d) (u::(A++w::rest)) x->block e d (u::(A++w::rest))=x:=by
  rintro x ⟨f0,h0⟩;have ct:rs e (nZ (u::(A++w::rest))) (.block d) (u::(A++w::rest))≠.error bd:=xF;have:=Vt ct (Nat.le_add_left _ f0);rw [h0 _ aq] at this;exact this.symm
 exact ⟨fun h=>by obtain ⟨t,k1,k2⟩:=hb.1 h;exact ⟨t,k1,key k2⟩,fun h=>by obtain ⟨pos,k1⟩:=hb.2 h;exact ⟨pos,key k1⟩⟩
end Go.Xp
namespace Go.Xp
open Go.Sp (bf eT dP cE cv own oa iR bI)
def AJ (n:Int):Int:=if n % 4294967296 > 2147483647 then n % 4294967296 - 4294967296 else n % 4294967296
def dj (n:Nat):ae:=if h:n < 10 then [UInt8.ofNat (48+n)] else dj (n / 10)++[UInt8.ofNat (48+n % 10)]
termination_by n
decreasing_by omega
theorem qB (n:Nat):(dj n).length<=n+1:=by
 induction n using Nat.strongRecOn with
 | _ n ih =>
 unfold dj
 by_cases h:n < 10
 ·rw [dif_pos h];simp
 ·rw [dif_neg h,aO];have:=ih (n / 10) aq;simp;omega
def bX:List ae->ae
 | []=>[]
 | x::r=>x++r.flatMap fun y=>44::32::y
theorem Da {l:List ae} (h:l≠[]) (x:ae):bX (l++[x])=(bX l++[44,32])++x:=by
 cases l with
 | nil=>exact absurd rfl h
 | cons a l=>simp [bX,List.flatMap_append]
theorem x5 (l:List ae) (k:Nat):(bX (l.take k)).length<=(bX l).length:=by
 cases l with
 | nil=>simp
 | cons a l =>
  cases k with
  | zero=>simp [bX]
  | succ k =>
   simp only [take_succ_cons,bX,aO]
   have:∀ (l:List ae) (k:Nat),((l.take k).flatMap fun y=>(44:UInt8)::32::y).length<=(l.flatMap fun y=>(44:UInt8)::32::y).length:=by
    intro l
    induction l with
    | nil=>intro k;simp
    | cons b l ih=>intro k;cases k with
     | zero=>simp
     | succ k=>simp only [take_succ_cons,flatMap_cons,aO];have:=ih k;omega
   have:=this l k;omega
def rV (lv k:Nat) (x:ae):ae:=if lv < k then (40::x)++[41] else x
mutual
def E.bF:E->ae
 | .num n=>dj n.toNat
 | .name s=>s
 | .at_ s a=>((s++[91])++a.bF)++[93]
 | .call s l=>((s++[40])++bX (E.dv l))++[41]
 | .un s a=>(s++[32])++rV a.lv 9 a.bF
 | .bin s a b=>(((rV a.lv (eQ s) a.bF++[32])++s)++[32])++rV b.lv (eQ s+1) b.bF
def E.dv:List E->List ae
 | []=>[]
 | a::l=>a.bF::E.dv l
end
mutual
def E.full:E->ae
 | .num n=>dj n.toNat
 | .name s=>s
 | .at_ s a=>((s++[91])++a.full)++[93]
 | .call s l=>((s++[40])++bX (E.ud l))++[41]
 | .un s a=>((40::s)++a.full)++[41]
 | .bin s a b=>(((((40::a.full)++[32])++s)++[32])++b.full)++[41]
def E.ud:List E->List ae
 | []=>[]
 | a::l=>a.full::E.ud l
end
theorem E.SU (l:List E):E.dv l=l.map E.bF:=by
 induction l with
 | nil=>rfl
 | cons a l ih=>rw [E.dv,ih];rfl
theorem E.Om (l:List E):E.ud l=l.map E.full:=by
 induction l with
 | nil=>rfl
 | cons a l ih=>rw [E.ud,ih];rfl
def E.out (least:Bool) (a:E):ae:=if least then a.bF else a.full
mutual
def S.bF (x:E->ae):S->ae
 | .set s a=>((s++[32,61,32])++x a)++[59]
 | .put s a b=>((((s++[91])++x a)++[93,32,61,32])++x b)++[59]
 | .if1 c b=>(([105,102,32,40]++x c)++[41,32])++(S.dv x [123,32] b++[125])
 | .if2 c b b2=>(((([105,102,32,40]++x c)++[41,32])++(S.dv x [123,32] b++[125]))++[32,101,108,115,101,32])++(S.dv x [123,32] b2++[125])
 | .while_ c b=>(([119,104,105,108,101,32,40]++x c)++[41,32])++(S.dv x [123,32] b++[125])
 | .ret a=>([114,101,116,117,114,110,32]++x a)++[59]
 | .do_ a=>x a++[59]
 | .var s a=>((([118,97,114,32]++s)++[32,61,32])++x a)++[59]
def S.dv (x:E->ae):ae->List S->ae
 | acc,[]=>acc
 | acc,a::l=>S.dv x ((acc++a.bF x)++[32]) l
end
def gg (x:E->ae) (l:List S):ae:=S.dv x [123,32] l++[125]
theorem JG (n:Nd) (l:List T):dP (.mk n l)=(cE l&&cv (.mk n l)):=by rw [dP]
theorem vo {l:List T} (h:cE l=true) {t:T} (ht:t∈l):dP t=true:=by
 induction l with
 | nil=>cases ht
 | cons a l ih =>
  rw [cE,aC] at h
  rcases de ht with rfl | ht
  ·exact h.1
  ·exact ih h.2 ht
theorem nJ (n:Nd) (l:List T):er (.mk n l)=.mk ⟨n.kind,0,n.n,n.s,[]⟩ (aV l):=by rw [er]
theorem jJ {l:List T} {m i:Nat} (h:bI m i l=true):∀ (j:Nat) t,l[j]?=some t->(if i+j < m then oa t.n.kind else t.n.kind==14)=true:=by
 induction l generalizing i with
 | nil=>intro j t h;simp at h
 | cons a l ih =>
  rw [bI,aC] at h;intro j t hj
  cases j with
  | zero=>cases hj;exact h.1
  | succ j=>have:=ih h.2 j t (by simpa using hj);rw [show i+(j+1)=i+1+j by omega];exact this
theorem GD:∀ (l:List T),(∀ t∈l,∃ a:E,a.ok=true/\er t=a.tree)->∃ es:List E,E.db es=true/\aV l=E.trees es
 | [],_=>⟨[],rfl,rfl⟩
 | t::l,h=>by
  obtain ⟨a,F,I⟩:=h t (mem_cons_self);obtain ⟨es,h3,h4⟩:=GD l (fun t ht=>h t (dw _ ht));exact ⟨a::es,by simp [E.db,F,h3],by rw [aV,E.trees,I,h4]⟩
theorem toE:∀ (sz:Nat) (t:T),sizeOf t<=sz->dP t=true->oa t.n.kind=true->∃ a:E,a.ok=true/\er t=a.tree:=by
 intro sz
 induction sz with
 | zero=>intro t h;cases t;simp at h
 | succ sz ih =>
  intro t dr ha hk;obtain ⟨n,l⟩:=t;rw [JG,aC] at ha;obtain ⟨ha,ho⟩:=ha
  have rv:∀ t∈l,oa t.n.kind=true->∃ a:E,a.ok=true/\er t=a.tree:=fun t ht hk=>by
   have:=List.sizeOf_lt_of_mem ht;exact ih t (by simp at dr;omega) (vo ha ht) hk
  obtain ⟨k,at_,v,s,ks⟩:=n
  have hk:(1:Int)<=k/\k<=6:=by
   simp only [oa,T.n,aC] at hk;exact ⟨nW hk.1,nW hk.2⟩
  simp only [cv,own,T.n,T.kids] at ho
  obtain rfl | rfl | rfl | rfl | rfl | rfl:k=1\/k=2\/k=3\/k=4\/k=5\/k=6:=by omega
  ·simp at ho;obtain ⟨F,I,h3,h4,h5⟩:=ho;subst h4 h5;exact ⟨.num v,by simp only [E.ok,aC];exact ⟨I,h3⟩,by rw [nJ,E.tree];rfl⟩
  ·simp at ho;obtain ⟨F,I,h3,h4⟩:=ho;subst I h4;exact ⟨.name s,by simp [E.ok,h3],by rw [nJ,E.tree];rfl⟩
  ·simp at ho;obtain ⟨F,I,h3,h4,h5⟩:=ho;subst I
   match l,h4 with
   | [t],_ =>
    have yK:=jJ h5 0 t rfl;obtain ⟨a,h6,h7⟩:=rv t (by simp) (by simpa using yK);exact ⟨.at_ s a,by simp [E.ok,h3,h6],by rw [nJ,E.tree,aV,h7];rfl⟩
  ·simp at ho;obtain ⟨F,I,h3,h5⟩:=ho;subst I
   obtain ⟨es,h6,h7⟩:=GD l fun t ht=>rv t ht (by
    obtain ⟨j,hj⟩:=List.mem_iff_getElem?.1 ht;have ak:=(bo hj).1;have:=jJ h5 j t hj
    rw [ab aq] at this;exact this)
   exact ⟨.call s es,by simp [E.ok,h3,h6],by rw [nJ,E.tree,h7]⟩
  ·simp at ho;obtain ⟨F,I,h3,h4,h5⟩:=ho;subst I
   match l,h4 with
   | [t],_ =>
    have yK:=jJ h5 0 t rfl;obtain ⟨a,h6,h7⟩:=rv t (by simp) (by simpa using yK);exact ⟨.un s a,by simp only [E.ok,h6,Bool.and_true,Bool.or_eq_true,beq_iff_eq];exact h3,by rw [nJ,E.tree,aV,h7];rfl⟩
  ·simp at ho;obtain ⟨F,I,h3,h4,h5⟩:=ho;subst I
   match l,h4 with
   | [t,u],_ =>
    have yK:=jJ h5 0 t rfl;have hku:=jJ h5 1 u rfl;obtain ⟨a,h6,h7⟩:=rv t (by simp) (by simpa using yK);obtain ⟨b,h8,h9⟩:=rv u (by simp) (by simpa using hku);exact ⟨.bin s a b,by simp [E.ok,h3,h6,h8],by rw [nJ,E.tree,aV,aV,h7,h9];rfl⟩
theorem Ix:∀ (l:List T),(∀ t∈l,∃ a:S,a.ok=true/\er t=a.tree)->∃ es:List S,S.db es=true/\aV l=S.trees es
 | [],_=>⟨[],rfl,rfl⟩
 | t::l,h=>by
  obtain ⟨a,F,I⟩:=h t (mem_cons_self);obtain ⟨es,h3,h4⟩:=Ix l (fun t ht=>h t (dw _ ht));exact ⟨a::es,by simp [S.db,F,h3],by rw [aV,S.trees,I,h4]⟩
theorem toS:∀ (sz:Nat) (t:T),sizeOf t<=sz->dP t=true->(iR t.n.kind=true->∃ a:S,a.ok=true/\er t=a.tree)/\(t.n.kind=14->∃ l:List S,S.db l=true/\er t=bU l):=by
 intro sz
 induction sz with
 | zero=>intro t h;cases t;simp at h
 | succ sz ih =>
  intro t dr ha;obtain ⟨n,l⟩:=t;rw [JG,aC] at ha;obtain ⟨ha,ho⟩:=ha
  have hex:∀ t∈l,oa t.n.kind=true->∃ a:E,a.ok=true/\er t=a.tree:=fun t ht hk=>toE _ t (aE _) (vo ha ht) hk
  have ey:∀ t∈l,t.n.kind=14->∃ l:List S,S.db l=true/\er t=bU l:=fun t ht hk=>by
   have:=List.sizeOf_lt_of_mem ht;exact (ih t (by simp at dr;omega) (vo ha ht)).2 hk
  have cj:∀ t∈l,iR t.n.kind=true->∃ a:S,a.ok=true/\er t=a.tree:=fun t ht hk=>by
   have:=List.sizeOf_lt_of_mem ht;exact (ih t (by simp at dr;omega) (vo ha ht)).1 hk
  obtain ⟨k,at_,v,s,ks⟩:=n;simp only [cv,own,T.n,T.kids] at ho;refine ⟨fun hk=>?_,fun hk=>?_⟩
  ·have hk:(7:Int)<=k/\k<=13:=by
    simp only [iR,T.n,aC] at hk;exact ⟨nW hk.1,nW hk.2⟩
   obtain rfl | rfl | rfl | rfl | rfl | rfl | rfl:k=7\/k=8\/k=9\/k=10\/k=11\/k=12\/k=13:=by omega
   ·simp at ho;obtain ⟨F,I,h3,h4,h5⟩:=ho;subst I
    match l,h4 with
    | [t],_ =>
     obtain ⟨a,h6,h7⟩:=hex t (by simp) (by simpa using jJ h5 0 t rfl);exact ⟨.set s a,by simp [S.ok,h3,h6],by rw [nJ,S.tree,aV,h7];rfl⟩
   ·simp at ho;obtain ⟨F,I,h3,h4,h5⟩:=ho;subst I
    match l,h4 with
    | [t,u],_ =>
     obtain ⟨a,h6,h7⟩:=hex t (by simp) (by simpa using jJ h5 0 t rfl);obtain ⟨b,h8,h9⟩:=hex u (by simp) (by simpa using jJ h5 1 u rfl);exact ⟨.put s a b,by simp [S.ok,h3,h6,h8],by rw [nJ,S.tree,aV,aV,h7,h9];rfl⟩
   ·simp at ho;obtain ⟨F,I,h3,h4,h5⟩:=ho;subst I h3
    rcases h4 with h4 | h4
    ·match l,h4 with
     | [t,u],_ =>
      obtain ⟨a,h6,h7⟩:=hex t (by simp) (by simpa using jJ h5 0 t rfl);obtain ⟨b,h8,h9⟩:=ey u (by simp) (by simpa using jJ h5 1 u rfl);exact ⟨.if1 a b,by simp [S.ok,h6,h8],by rw [nJ,S.tree,aV,aV,h7,h9];rfl⟩
    ·match l,h4 with
     | [t,u,w],_ =>
      obtain ⟨a,h6,h7⟩:=hex t (by simp) (by simpa using jJ h5 0 t rfl);obtain ⟨b,h8,h9⟩:=ey u (by simp) (by simpa using jJ h5 1 u rfl);obtain ⟨c,mF,qd⟩:=ey w (by simp) (by simpa using jJ h5 2 w rfl);exact ⟨.if2 a b c,by simp [S.ok,h6,h8,mF],by rw [nJ,S.tree,aV,aV,aV,h7,h9,qd];rfl⟩
   ·simp at ho;obtain ⟨F,I,h3,h4,h5⟩:=ho;subst I h3
    match l,h4 with
    | [t,u],_ =>
     obtain ⟨a,h6,h7⟩:=hex t (by simp) (by simpa using jJ h5 0 t rfl);obtain ⟨b,h8,h9⟩:=ey u (by simp) (by simpa using jJ h5 1 u rfl);exact ⟨.while_ a b,by simp [S.ok,h6,h8],by rw [nJ,S.tree,aV,aV,h7,h9];rfl⟩
   ·simp at ho;obtain ⟨F,I,h3,h4,h5⟩:=ho;subst I h3
    match l,h4 with
    | [t],_ =>
     obtain ⟨a,h6,h7⟩:=hex t (by simp) (by simpa using jJ h5 0 t rfl);exact ⟨.ret a,by simp [S.ok,h6],by rw [nJ,S.tree,aV,h7];rfl⟩
   ·simp at ho;obtain ⟨F,I,h3,h4,h5⟩:=ho;subst I h3
    match l,h4 with
    | [t],_ =>
     obtain ⟨a,h6,h7⟩:=hex t (by simp) (by simpa using jJ h5 0 t rfl);exact ⟨.do_ a,by simp [S.ok,h6],by rw [nJ,S.tree,aV,h7];rfl⟩
   ·simp at ho;obtain ⟨F,I,h3,h4,h5⟩:=ho;subst I
    match l,h4 with
    | [t],_ =>
     obtain ⟨a,h6,h7⟩:=hex t (by simp) (by simpa using jJ h5 0 t rfl);exact ⟨.var s a,by simp [S.ok,h3,h6],by rw [nJ,S.tree,aV,h7];rfl⟩
  ·simp only [T.n] at hk;subst hk;simp at ho;obtain ⟨F,I,h3,h4⟩:=ho;subst I h4
   obtain ⟨es,h5,h6⟩:=Ix l fun t ht=>cj t ht (h3 t ht)
   exact ⟨es,h5,by rw [nJ,bU,h6]⟩
theorem toB {t:T} (h:dP t=true) (hk:t.n.kind=14):∃ l:List S,S.db l=true/\er t=bU l:=(toS _ t (aE _) h).2 hk
mutual
def wt:T->Nat
 | .mk n l=>30+n.s.length+fG l
def fG:List T->Nat
 | []=>0
 | t::l=>wt t+fG l
end
mutual
theorem Up:∀ t:T,wt (er t)=wt t
 | .mk n l=>by rw [er,wt,wt,Lu l]
theorem Lu:∀ l:List T,fG (aV l)=fG l
 | []=>rfl
 | t::l=>by rw [aV,fG,fG,Up t,Lu l]
end
theorem JQ:∀ (k n:Nat),n < 10 ^ (k+1)->(dj n).length<=k+1:=by
 intro k
 induction k with
 | zero=>intro n h;unfold dj;rw [dif_pos aq];simp
 | succ k ih =>
  intro n h;unfold dj;split
  ·simp
  ·rw [aO];have:=ih (n / 10) (by rw [Nat.pow_succ] at h;omega);simp;omega
theorem uo (lv k:Nat) (x:ae):(rV lv k x).length<=x.length+2:=by unfold rV;split <;> simp
mutual
theorem E.len:∀ a:E,a.ok=true->a.bF.length+4<=wt a.tree/\a.full.length+4<=wt a.tree
 | .num n,h=>by
  simp only [E.ok,aC] at h;have F:=nW h.1;have I:=nW h.2;have:=JQ 9 n.toNat aq;rw [E.bF,E.full,E.tree,wt];simp only [length_nil,fG];omega
 | .name s,h=>by rw [E.bF,E.full,E.tree,wt];simp only [fG];omega
 | .at_ s a,h=>by
  simp only [E.ok,aC] at h;have:=E.len a h.2;rw [E.bF,E.full,E.tree,wt];simp only [fG,aO,length_cons,length_nil];omega
 | .call s l,h=>by
  simp only [E.ok,aC] at h;have:=E.lens l h.2;rw [E.bF,E.full,E.tree,wt];simp only [aO,length_cons,length_nil];omega
 | .un s a,h=>by
  simp only [E.ok,aC] at h;have:=E.len a h.2;have:=uo a.lv 9 a.bF;rw [E.bF,E.full,E.tree,wt];simp only [fG,aO,length_cons,length_nil];omega
 | .bin s a b,h=>by
  simp only [E.ok,aC] at h;have:=E.len a h.1.2;have:=E.len b h.2;have:=uo a.lv (eQ s) a.bF;have:=uo b.lv (eQ s+1) b.bF;rw [E.bF,E.full,E.tree,wt];simp only [fG,aO,length_cons,length_nil];omega
theorem E.lens:∀ l:List E,E.db l=true->(bX (E.dv l)).length<=fG (E.trees l)/\(bX (E.ud l)).length<=fG (E.trees l)
 | [],_=>⟨aM _,aM _⟩
 | a::l,h=>by
  simp only [E.db,aC] at h;have F:=E.len a h.1;have I:=E.lens l h.2;rw [E.dv,E.ud,E.trees,fG]
  have key:∀ (x:ae) (l:List ae),(bX (x::l)).length<=x.length+2+(bX l).length:=by
   intro x l
   cases l with
   | nil=>simp [bX]
   | cons y l=>simp [bX];omega
  have:=key a.bF (E.dv l);have:=key a.full (E.ud l);omega
end
mutual
theorem S.len (x:E->ae) (hx:∀ a:E,a.ok=true->(x a).length+4<=wt a.tree):∀ s:S,s.ok=true->(s.bF x).length+4<=wt s.tree
 | .set s a,h=>by
  simp only [S.ok,aC] at h;have:=hx a h.2;rw [S.bF,S.tree,wt];simp only [fG,aO,length_cons,length_nil];omega
 | .put s a b,h=>by
  simp only [S.ok,aC] at h;have:=hx a h.2.1;have:=hx b h.2.2;rw [S.bF,S.tree,wt];simp only [fG,aO,length_cons,length_nil];omega
 | .if1 c b,h=>by
  simp only [S.ok,aC] at h;have:=hx c h.1;have:=S.lens x hx b h.2 [123,32];rw [S.bF,S.tree,wt];simp only [fG,wt,aO,length_cons,length_nil] at *;omega
 | .if2 c b b2,h=>by
  simp only [S.ok,aC] at h;have:=hx c h.1;have:=S.lens x hx b h.2.1 [123,32];have:=S.lens x hx b2 h.2.2 [123,32];rw [S.bF,S.tree,wt];simp only [fG,wt,aO,length_cons,length_nil] at *;omega
 | .while_ c b,h=>by
  simp only [S.ok,aC] at h;have:=hx c h.1;have:=S.lens x hx b h.2 [123,32];rw [S.bF,S.tree,wt];simp only [fG,wt,aO,length_cons,length_nil] at *;omega
 | .ret a,h=>by
  simp only [S.ok] at h;have:=hx a h;rw [S.bF,S.tree,wt];simp only [fG,aO,length_cons,length_nil];omega
 | .do_ a,h=>by
  simp only [S.ok] at h;have:=hx a h;rw [S.bF,S.tree,wt];simp only [fG,aO,length_cons,length_nil];omega
 | .var s a,h=>by
  simp only [S.ok,aC] at h;have:=hx a h.2;rw [S.bF,S.tree,wt];simp only [fG,aO,length_cons,length_nil];omega
theorem S.lens (x:E->ae) (hx:∀ a:E,a.ok=true->(x a).length+4<=wt a.tree):∀ l:List S,S.db l=true->∀ acc:ae,(S.dv x acc l).length<=acc.length+fG (S.trees l)
 | [],_,acc=>by rw [S.dv];omega
 | a::l,h,acc=>by
  simp only [S.db,aC] at h;have F:=S.len x hx a h.1;have I:=S.lens x hx l h.2 ((acc++a.bF x)++[32]);rw [S.dv,S.trees,fG];simp only [aO,length_cons,length_nil] at I;omega
end
theorem um (x:E->ae) (hx:∀ a:E,a.ok=true->(x a).length+4<=wt a.tree) {l:List S} (h:S.db l=true):(gg x l).length<=wt (bU l):=by
 have:=S.lens x hx l h [123,32];unfold gg bU;rw [wt];simp only [aO,length_cons,length_nil] at *;omega
end Go.Xp
namespace Go.Im
open Go.Xp Go.Sp
def rO (g:Nat->Option (T × Nat)):List Int->Nat->List T->Option (List T × Nat)
 | [],next,acc=>some (acc,next)
 | k::r,next,acc=>if k=(next:Int) then match g next with
  | none=>none
  | some (t,e)=>rO g r e (acc++[t])
  else none
def qn (nodes:List Nd):Nat->Nat->Option (T × Nat)
 | 0,_=>none
 | f+1,a=>match nodes[a]? with
  | none=>none
  | some n=>match rO (qn nodes f) n.kids (a+1) [] with
   | none=>none
   | some (l,e)=>if n.at_ < 0 then none else some (.mk n l,e)
def tr (nodes:List Nd) (a:Nat):Option (T × Nat):=qn nodes (nodes.length+1) a
theorem IJ {nodes:List Nd} {g:Nat->Option (T × Nat)} (hg:∀ a t e,g a=some (t,e)->a < e/\e<=nodes.length/\e=a+aK t/\(nodes.take e).drop a=eN a t) :
  ∀ (ks:List Int) (next:Nat) (acc l:List T) (e:Nat),next<=nodes.length->rO g ks next acc=some (l,e)->∃ l',l=acc++l'/\e=next+aB l'/\e<=nodes.length/\ks=bh next l'/\(nodes.take e).drop next=bN next l'
 | [],next,acc,l,e,hn,h=>by
  rw [rO] at h;cases h;exact ⟨[],by simp,by simp [aB],hn,rfl,by rw [bN];exact iC (by rw [jv,cX];omega)⟩
 | k::r,next,acc,l,e,hn,h=>by
  rw [rO] at h;split at h
  ·rename_i hk
   cases hq:g next with
   | none=>rw [hq] at h;cases h
   | some x =>
    obtain ⟨t,e1⟩:=x;rw [hq] at h;simp only at h;obtain ⟨a1,a2,a3,a4⟩:=hg _ _ _ hq;obtain ⟨l',b1,b2,b3,b4,b5⟩:=IJ hg r e1 (acc++[t]) l e a2 h;refine ⟨t::l',by rw [b1];simp,by rw [aB];omega,b3,by rw [bh,<-a3,<-b4,hk],?_⟩;rw [bN,<-a3,<-a4,<-b5]
    have he:e1<=e:=by omega
    have F:(nodes.take e).take e1=nodes.take e1:=by rw [List.take_take,Nat.min_eq_left he]
    have I:(nodes.take e).drop next=((nodes.take e).take e1).drop next++(nodes.take e).drop e1:=by
     have h3:nodes.take e=(nodes.take e).take e1++(nodes.take e).drop e1:=(take_append_drop _ _).symm
     have h4:((nodes.take e).take e1).length=e1:=by rw [cX,cX];omega
     rw [h3,List.drop_append_of_le_length (by rw [h4];omega)];rw [<-h3]
    rw [I,F]
  ·cases h
theorem Cv {nodes:List Nd}:∀ (f a:Nat) (t:T) (e:Nat),qn nodes f a=some (t,e)->a < e/\e<=nodes.length/\e=a+aK t/\(nodes.take e).drop a=eN a t
 | 0,a,t,e,h=>by cases h
 | f+1,a,t,e,h=>by
  rw [qn] at h
  cases hn:nodes[a]? with
  | none=>rw [hn] at h;cases h
  | some n =>
   rw [hn] at h;simp only at h;have ak:=(bo hn).1
   cases hk:rO (qn nodes f) n.kids (a+1) [] with
   | none=>rw [hk] at h;cases h
   | some x =>
    obtain ⟨l,e1⟩:=x;rw [hk] at h;simp only at h;split at h
    ·cases h
    ·cases h;obtain ⟨l',b1,b2,b3,b4,b5⟩:=IJ (Cv f) n.kids (a+1) [] l e ak hk
     have:l'=l:=by rw [b1];rfl
     subst this;refine ⟨by omega,b3,by rw [aK];omega,?_⟩;rw [eN,<-b4,<-b5]
     have F:(nodes.take e)[a]?=some n:=by rw [getElem?_take,ab aq];exact hn
     obtain ⟨I,h3⟩:=bo F;rw [ju I,h3]
def kB (nodes:List Nd):List Fn->Nat->List T->Option (List T × Nat)
 | [],next,acc=>some (acc,next)
 | f::r,next,acc=>match tr nodes next with
  | none=>none
  | some (t,e)=>if f.body=(next:Int) then kB nodes r e (acc++[t]) else none
def dJ (k:Int) (n:Nat):Bool :=
 if k=1\/k=2 then ((n:Int)==0)
 else if k=4\/k=14 then true
 else if k=3\/k=5\/k=7\/k=11\/k=12\/k=13 then ((n:Int)==1)
 else if k=6\/k=8\/k=10 then ((n:Int)==2)
 else if k=9 then ((n:Int)==2) || ((n:Int)==3)
 else false
mutual
def iT:T->Bool
 | .mk n l=>dJ n.kind l.length&&wj l
def wj:List T->Bool
 | []=>true
 | t::r=>iT t&&wj r
end
theorem zG (t:T):iT t=(dJ t.n.kind t.kids.length&&wj t.kids):=by cases t;rw [iT];rfl
theorem u5 (l:List T):wj l=l.all iT:=by
 induction l with
 | nil=>rfl
 | cons t l ih=>rw [wj,ih];rfl
mutual
def eF (nodes:List Nd):Nat->T->Prop
 | a,.mk n l=>nodes[a]?=some n/\n.kids=bh (a+1) l/\ed nodes (a+1) l
def ed (nodes:List Nd):Nat->List T->Prop
 | _,[]=>True
 | a,t::r=>eF nodes a t/\ed nodes (a+aK t) r
end
mutual
def yV:T->Prop
 | .mk n l=>0<=n.at_/\nI l
def nI:List T->Prop
 | []=>True
 | t::r=>yV t/\nI r
end
theorem jy (t:T):1<=aK t:=by rw [fA];omega
mutual
theorem eF.le {nodes:List Nd}:∀ (t:T) (a:Nat),eF nodes a t->a+aK t<=nodes.length
 | .mk n l,a,h=>by
  rw [eF] at h;have F:=(bo h.1).1;have:=ed.le l (a+1) h.2.2 F;rw [aK];omega
theorem ed.le {nodes:List Nd}:∀ (l:List T) (a:Nat),ed nodes a l->a<=nodes.length->a+aB l<=nodes.length
 | [],a,h,ha=>by rw [aB];exact ha
 | t::r,a,h,ha=>by
  rw [ed] at h;have F:=eF.le t a h.1;have:=ed.le r _ h.2 F;rw [aB];omega
end
theorem JU {nodes:List Nd}:∀ (f:Nat),(∀ (a d:Nat) (e:Int),pU nodes f a d=some e->0<=e->∃ t,eF nodes a t/\e=((a+aK t:Nat):Int)) /\
  (∀ (ks:List Int) (next d:Nat) (e:Int),oQ nodes f ks (next:Int) d=some e->0<=e->∃ l,ed nodes next l/\ks=bh next l/\e=((next+aB l:Nat):Int)):=by
 intro f
 induction f with
 | zero =>
  refine ⟨fun a d e h _=>by simp [pU] at h,fun ks next d e h _=>?_⟩
  cases ks with
  | nil=>rw [oQ] at h;cases h;exact ⟨[],trivial,rfl,by simp [aB]⟩
  | cons k r=>simp [oQ] at h
 | succ f ih =>
  refine ⟨fun a d e h he=>?_,fun ks next d e h he=>?_⟩
  ·rw [pU] at h;split at h
   ·cases h;omega
   ·cases hn:nodes[a]? with
    | none=>rw [hn] at h;cases h
    | some n =>
     rw [hn] at h;simp only at h;rw [show ((a:Int)+1)=((a+1:Nat):Int) by omega] at h;obtain ⟨l,F,I,h3⟩:=ih.2 _ _ _ _ h he;exact ⟨.mk n l,by rw [eF];exact ⟨hn,I,F⟩,by rw [h3,aK];omega⟩
  ·cases ks with
   | nil=>rw [oQ] at h;cases h;exact ⟨[],trivial,rfl,by simp [aB]⟩
   | cons k r =>
    rw [oQ] at h;split at h
    ·rename_i hk;subst hk;rw [pM] at h
     cases hq:pU nodes f next (d+1) with
     | none=>rw [hq] at h;cases h
     | some e1 =>
      rw [hq] at h;simp only at h;split at h
      ·cases h;omega
      ·rename_i h0;obtain ⟨t,F,I⟩:=ih.1 _ _ _ hq aq;subst I;obtain ⟨l,h3,h4,h5⟩:=ih.2 _ _ _ _ h he;refine ⟨t::l,by rw [ed];exact ⟨F,h3⟩,by rw [bh,<-h4],by rw [h5,aB];omega⟩
    ·cases h;omega
theorem xu {nodes:List Nd}:∀ (f:Nat),(∀ (t:T) (a:Nat),eF nodes a t->2 * aK t<=f->sub nodes f a=some t) /\
  (∀ (l:List T) (a:Nat) (acc:List T),ed nodes a l->2 * aB l+1<=f->pX nodes f (bh a l) acc=some (acc++l)):=by
 intro f
 induction f with
 | zero =>
  exact ⟨fun t a _ h=>by have:=jy t;omega,fun l a acc _ h=>by omega⟩
 | succ f ih =>
  refine ⟨fun t a hs h=>?_,fun l a acc hs h=>?_⟩
  ·obtain ⟨n,l⟩:=t;rw [eF] at hs;rw [aK] at h;rw [sub,hs.1];simp only;rw [hs.2.1,ih.2 l (a+1) [] hs.2.2 aq];rfl
  ·cases l with
   | nil=>rw [bh,pX];simp
   | cons t l =>
    rw [ed] at hs;rw [aB] at h;have:=jy t;rw [bh,pX,L aq,pM,ih.1 t a hs.1 aq];simp only;rw [ih.2 l _ _ hs.2 aq];simp
theorem YO {nodes:List Nd}:∀ (f:Nat) (t:T) (a:Nat),eF nodes a t->yV t->aK t<=f->qn nodes f a=some (t,a+aK t):=by
 intro f
 induction f with
 | zero=>intro t a _ _ h;have:=jy t;omega
 | succ f ih =>
  intro t a hs ha h;obtain ⟨n,l⟩:=t
  have key:∀ (l:List T) (a:Nat) (acc:List T),ed nodes a l->nI l->aB l<=f->rO (qn nodes f) (bh a l) a acc=some (acc++l,a+aB l):=by
   intro l
   induction l with
   | nil=>intro a acc _ _ _;rw [bh,rO,aB];simp
   | cons t l ih2 =>
    intro a acc hs ha h;rw [ed] at hs;rw [nI] at ha;rw [aB] at h;rw [bh,rO,ab rfl,ih t a hs.1 ha.1 aq];simp only;rw [ih2 _ _ hs.2 ha.2 aq,aB];simp [gn]
  rw [eF] at hs;rw [yV] at ha;rw [aK] at h;rw [qn,hs.1];simp only;rw [hs.2.1,key l (a+1) [] hs.2.2 ha.2 aq];simp only;rw [L aq,aK];simp only [nil_append,Option.some.injEq,Prod.mk.injEq,true_and];omega
theorem YF {nodes:List Nd}:∀ (f:Nat) (t:T) (a e:Nat),qn nodes f a=some (t,e)->eF nodes a t/\e=a+aK t/\yV t:=by
 intro f
 induction f with
 | zero=>intro t a e h;cases h
 | succ f ih =>
  intro t a e h
  have key:∀ (ks:List Int) (next:Nat) (acc l:List T) (e:Nat),rO (qn nodes f) ks next acc=some (l,e)->∃ l',l=acc++l'/\ed nodes next l'/\ks=bh next l'/\e=next+aB l'/\nI l':=by
   intro ks
   induction ks with
   | nil=>intro next acc l e h;rw [rO] at h;cases h;exact ⟨[],by simp,trivial,rfl,by simp [aB],trivial⟩
   | cons k r ih2 =>
    intro next acc l e h
    rw [rO] at h;split at h
    ·rename_i hk
     cases hq:qn nodes f next with
     | none=>rw [hq] at h;cases h
     | some x =>
      obtain ⟨t,e1⟩:=x;rw [hq] at h;simp only at h;obtain ⟨a1,a2,a3⟩:=ih _ _ _ hq;subst a2;obtain ⟨l',b1,b2,b3,b4,b5⟩:=ih2 _ _ _ _ h;exact ⟨t::l',by rw [b1];simp,by rw [ed];exact ⟨a1,b2⟩,by rw [bh,hk,b3],by rw [b4,aB];omega,by rw [nI];exact ⟨a3,b5⟩⟩
    ·cases h
  rw [qn] at h
  cases hn:nodes[a]? with
  | none=>rw [hn] at h;cases h
  | some n =>
   rw [hn] at h;simp only at h
   cases hk:rO (qn nodes f) n.kids (a+1) [] with
   | none=>rw [hk] at h;cases h
   | some x =>
    obtain ⟨l,e1⟩:=x;rw [hk] at h;simp only at h;split at h
    ·cases h
    ·rename_i h0;cases h;obtain ⟨l',b1,b2,b3,b4,b5⟩:=key _ _ _ _ _ hk
     have:l'=l:=by rw [b1];rfl
     subst this;exact ⟨by rw [eF];exact ⟨hn,b3,b2⟩,by rw [b4,aK];omega,by rw [yV];exact ⟨by omega,b5⟩⟩
theorem UI {nodes:List Nd} (hl:nodes.length<=800):∀ (f:Nat),(∀ (t:T) (a d:Nat),eF nodes a t->d<=a->2 * aK t<=f->pU nodes f a d=some ((a+aK t:Nat):Int)) /\
  (∀ (l:List T) (a d:Nat),ed nodes a l->d < a->2 * aB l+1<=f->oQ nodes f (bh a l) (a:Int) d=some ((a+aB l:Nat):Int)):=by
 intro f
 induction f with
 | zero =>
  exact ⟨fun t a d _ _ h=>by have:=jy t;omega,fun l a d _ _ h=>by omega⟩
 | succ f ih =>
  refine ⟨fun t a d hs hd h=>?_,fun l a d hs hd h=>?_⟩
  ·obtain ⟨n,l⟩:=t;rw [eF] at hs;rw [aK] at h |-;have ak:=(bo hs.1).1;rw [pU,L aq,hs.1];simp only;rw [show ((a:Int)+1)=((a+1:Nat):Int) by omega,hs.2.1,ih.2 l (a+1) d hs.2.2 aq aq]
   congr 1;omega
  ·cases l with
   | nil=>rw [bh,oQ,aB];simp
   | cons t l =>
    rw [ed] at hs;rw [aB] at h |-;have:=jy t;rw [bh,oQ,ab rfl,pM,ih.1 t a (d+1) hs.1 aq aq];simp only;rw [L aq,ih.2 l _ d hs.2 aq aq]
    congr 1;omega
theorem NS {nodes:List Nd}:∀ (f:Nat),(∀ (a d:Nat),2 * (nodes.length - a)+1<=f->∃ e,pU nodes f a d=some e/\(0<=e->(a:Int) < e/\a < nodes.length)) /\
  (∀ (ks:List Int) (next d:Nat),2 * (nodes.length - next)+2<=f->∃ e,oQ nodes f ks (next:Int) d=some e/\(0<=e->(next:Int)<=e)):=by
 intro f
 induction f with
 | zero=>exact ⟨fun a d h=>by omega,fun ks next d h=>by omega⟩
 | succ f ih =>
  refine ⟨fun a d h=>?_,fun ks next d h=>?_⟩
  ·rw [pU];split
   ·exact ⟨-1,rfl,fun h=>by omega⟩
   ·rename_i hc
    cases hn:nodes[a]? with
    | none=>rw [List.getElem?_eq_none_iff] at hn;omega
    | some n =>
     simp only;rw [show ((a:Int)+1)=((a+1:Nat):Int) by omega];obtain ⟨e,F,I⟩:=ih.2 n.kids (a+1) d aq;exact ⟨e,F,fun h=>⟨by have:=I h;omega,by omega⟩⟩
  ·cases ks with
   | nil=>rw [oQ];exact ⟨_,rfl,fun _=>Int.le_refl _⟩
   | cons k r =>
    rw [oQ];split
    ·rename_i hk;subst hk;rw [pM]
     obtain ⟨e,F,I⟩:=ih.1 next (d+1) aq
     rw [F];simp only;split
     ·exact ⟨-1,rfl,fun h=>by omega⟩
     ·rename_i h0;have h3:=I aq;obtain ⟨m,rfl⟩:∃ m:Nat,e=(m:Int):=⟨e.toNat,by omega⟩;obtain ⟨e',h4,h5⟩:=ih.2 r m d aq;exact ⟨e',h4,fun h=>by have:=h5 h;omega⟩
    ·exact ⟨-1,rfl,fun h=>by omega⟩
def gw (Q:Fn->T->Prop):List Fn->Nat->List T->Prop
 | [],_,[]=>True
 | f::r,a,t::l=>f.body=(a:Int)/\Q f t/\gw Q r (a+aK t) l
 | _,_,_=>False
theorem gw.len {Q:Fn->T->Prop}:∀ {fns:List Fn} {a:Nat} {l:List T},gw Q fns a l->fns.length=l.length
 | [],_,[],_=>rfl
 | f::r,a,t::l,h=>by rw [gw] at h;rw [length_cons,length_cons,gw.len h.2.2]
 | [],_,t::l,h=>by cases h
 | f::r,_,[],h=>by cases h
theorem gw.mono {Q R:Fn->T->Prop}:∀ {fns:List Fn} {a:Nat} {l:List T},gw Q fns a l->(∀ f t,f∈fns->t∈l->Q f t->R f t)->gw R fns a l
 | [],_,[],_,_=>trivial
 | f::r,a,t::l,h,hq=>by
  rw [gw] at h |-;exact ⟨h.1,hq _ _ mem_cons_self mem_cons_self h.2.1,gw.mono h.2.2 fun f t hf ht=>hq f t (dw _ hf) (dw _ ht)⟩
 | [],_,t::l,h,_=>by cases h
 | f::r,_,[],h,_=>by cases h
theorem gw.at_ {Q:Fn->T->Prop}:∀ {fns:List Fn} {a:Nat} {l:List T},gw Q fns a l->∀ (i:Nat) f t,fns[i]?=some f->l[i]?=some t->f.body=((a+aB (l.take i):Nat):Int)/\Q f t
 | [],_,[],_,i,f,t,F,I=>by simp at F
 | f::r,a,t::l,h,i,f',t',F,I=>by
  rw [gw] at h
  cases i with
  | zero=>cases F;cases I;rw [take_zero,aB];exact ⟨h.1,h.2.1⟩
  | succ i =>
   obtain ⟨k1,k2⟩:=gw.at_ h.2.2 i f' t' (by simpa using F) (by simpa using I);exact ⟨by rw [k1,take_succ_cons,aB];omega,k2⟩
 | [],_,t::l,h,_,_,_,_,_=>by cases h
 | f::r,_,[],h,_,_,_,_,_=>by cases h
structure QR (f:Fn) (t:T):Prop where
 name:bf f.name=true
 params:c8 f.params=true
 kind:t.n.kind=14
 all:dP t=true
theorem AZ {nodes:List Nd}:∀ (fns:List Fn) (next:Nat) (e:Int),iF nodes fns (next:Int)=some (some e)->∃ l,ed nodes next l/\gw QR fns next l/\e=((next+aB l:Nat):Int)
 | [],next,e,h=>by rw [iF] at h;cases h;exact ⟨[],trivial,trivial,by simp [aB]⟩
 | f::r,next,e,h=>by
  rw [iF,pM] at h
  cases hn:pU nodes (fN nodes) next 0 with
  | none=>rw [hn] at h;cases h
  | some e1 =>
   rw [hn] at h;simp only at h;split at h
   ·cases h
   ·rename_i hc;split at h
    ·cases h
    ·rename_i hp;obtain ⟨t,F,I⟩:=(JU _).1 _ _ _ hn aq;have hle:=eF.le t _ F;rw [(xu _).1 t next F (by unfold fN;omega)] at h;simp only at h;split at h
     ·cases h
     ·rename_i hk;subst I;obtain ⟨l,k1,k2,k3⟩:=AZ r _ e h;refine ⟨t::l,by rw [ed];exact ⟨F,k1⟩,?_,by rw [k3,aB];omega⟩;rw [gw];refine ⟨by omega,⟨?_,?_,?_,?_⟩,k2⟩
      ·cases hq:bf f.name with
       | true=>rfl
       | false=>exact absurd (.inr (.inl hq)) hc
      ·simpa using hp
      ·exact Decidable.byContradiction fun hq=>hk (.inl hq)
      ·cases hq:dP t with
       | true=>rfl
       | false=>exact absurd (.inr hq) hk
theorem AY {nodes:List Nd} (hl:nodes.length<=800):∀ (fns:List Fn) (next:Nat) (l:List T),ed nodes next l->gw QR fns next l->iF nodes fns (next:Int)=some (some ((next+aB l:Nat):Int))
 | [],next,[],_,_=>by rw [iF,aB];rfl
 | f::r,next,t::l,h,hf=>by
  rw [ed] at h;rw [gw] at hf;have hle:=eF.le t _ h.1;rw [iF,pM,(UI hl _).1 t next 0 h.1 (aM _) (by unfold fN;omega)];simp only;rw [L (by rw [hf.2.1.name];rintro (h | h | h);exact h hf.1;cases h;omega),L (by rw [hf.2.1.params];decide),(xu _).1 t next h.1 (by unfold fN;omega)];simp only;rw [L (by rw [hf.2.1.all];rintro (h | h);exact h hf.2.1.kind;cases h),AY hl r _ l h.2 hf.2.2,aB]
  congr 2;omega
 | [],_,t::l,_,h=>by cases h
 | f::r,_,[],_,h=>by cases h
theorem yH {nodes:List Nd}:∀ (fns:List Fn) (next:Nat),∃ r,iF nodes fns (next:Int)=some r
 | [],next=>⟨_,by rw [iF]⟩
 | f::r,next=>by
  obtain ⟨e,F,I⟩:=(NS (nodes:=nodes) (fN nodes)).1 next 0 (by unfold fN;omega)
  rw [iF,pM,F];simp only;split
  ·exact ⟨_,rfl⟩
  ·rename_i hc;split
   ·exact ⟨_,rfl⟩
   ·obtain ⟨t,k1,k2⟩:=(JU _).1 _ _ _ F aq;have hle:=eF.le t _ k1;rw [(xu _).1 t next k1 (by unfold fN;omega)];simp only;split
    ·exact ⟨_,rfl⟩
    ·rw [k2];exact yH r _
theorem MR (p:Src):∃ b,pJ p=some b:=by
 unfold pJ;split
 ·exact ⟨_,rfl⟩
 ·split
  ·exact ⟨_,rfl⟩
  ·obtain ⟨r,h⟩:=yH (nodes:=p.nodes) p.fns 0;rw [show ((0:Nat):Int)=0 from rfl] at h;rw [h]
   cases r <;> exact ⟨_,rfl⟩
structure il (p:Src) (l:List T):Prop where
 globals:c8 p.globals=true
 arrays:p.arrays.all oP=true
 st:ed p.nodes 0 l
 fns:gw QR p.fns 0 l
 len:aB l=p.nodes.length
 few:p.nodes.length<=800
theorem VH {p:Src} (h:pJ p=some true):∃ l,il p l:=by
 unfold pJ at h;split at h
 ·cases h
 ·rename_i F;split at h
  ·cases h
  ·rename_i I;rw [show (0:Int)=((0:Nat):Int) from rfl] at h
   cases hf:iF p.nodes p.fns ((0:Nat):Int) with
   | none=>rw [hf] at h;cases h
   | some r =>
    rw [hf] at h
    cases r with
    | none=>cases h
    | some e =>
     obtain ⟨l,k1,k2,k3⟩:=AZ _ _ _ hf;simp only [Option.some.injEq,aC,beq_iff_eq,decide_eq_true_eq] at h;exact ⟨l,by simpa using F,by simpa using I,k1,k2,by omega,by omega⟩
theorem il.pJ {p:Src} {l:List T} (h:il p l):pJ p=some true:=by
 unfold Go.Sp.pJ;rw [L (by rw [h.globals];decide),L (by rw [h.arrays];decide),show (0:Int)=((0:Nat):Int) from rfl,AY h.few _ _ _ h.st h.fns];simp only [Option.some.injEq,aC,beq_iff_eq,decide_eq_true_eq];have:=h.len;have:=h.few;omega
theorem DS {nodes:List Nd}:∀ (fns:List Fn) (next:Nat) (acc l:List T) (e:Nat),kB nodes fns next acc=some (l,e)->∃ l',l=acc++l'/\ed nodes next l'/\gw (fun _ _=>True) fns next l'/\e=next+aB l'/\nI l'
 | [],next,acc,l,e,h=>by rw [kB] at h;cases h;exact ⟨[],by simp,trivial,trivial,by simp [aB],trivial⟩
 | f::r,next,acc,l,e,h=>by
  rw [kB] at h
  cases hq:tr nodes next with
  | none=>rw [hq] at h;cases h
  | some x =>
   obtain ⟨t,e1⟩:=x;rw [hq] at h;simp only at h;split at h
   ·rename_i hb;obtain ⟨a1,a2,a3⟩:=YF _ _ _ _ hq;subst a2;obtain ⟨l',b1,b2,b3,b4,b5⟩:=DS r _ _ _ _ h;exact ⟨t::l',by rw [b1];simp,by rw [ed];exact ⟨a1,b2⟩,by rw [gw];exact ⟨hb,trivial,b3⟩,by rw [b4,aB];omega,by rw [nI];exact ⟨a3,b5⟩⟩
   ·cases h
theorem JM {nodes:List Nd} {Q:Fn->T->Prop}:∀ (fns:List Fn) (next:Nat) (acc l:List T),ed nodes next l->gw Q fns next l->nI l->kB nodes fns next acc=some (acc++l,next+aB l)
 | [],next,acc,[],_,_,_=>by rw [kB,aB];simp
 | f::r,next,acc,t::l,h,hf,ha=>by
  rw [ed] at h;rw [gw] at hf;rw [nI] at ha;have hle:=eF.le t _ h.1;rw [kB,tr,YO _ t next h.1 ha.1 aq];simp only;rw [ab hf.1,JM r _ _ l h.2 hf.2.2 ha.2,aB];simp [gn]
 | [],_,_,t::l,_,h,_=>by cases h
 | f::r,_,_,[],_,h,_=>by cases h
mutual
theorem eF.fl {nodes:List Nd}:∀ (t:T) (a:Nat),eF nodes a t->(nodes.take (a+aK t)).drop a=eN a t
 | .mk n l,a,h=>by
  have hle:=eF.le _ _ h;rw [eF] at h;rw [aK] at hle;have F:=ed.fl l (a+1) h.2.2 (by have:=(bo h.1).1;omega);rw [eN,<-h.2.1,<-F,aK,show a+(aB l+1)=a+1+aB l by omega]
  have I:(nodes.take (a+1+aB l))[a]?=some n:=by rw [getElem?_take,ab aq];exact h.1
  obtain ⟨h3,h4⟩:=bo I;rw [ju h3,h4]
theorem ed.fl {nodes:List Nd}:∀ (l:List T) (a:Nat),ed nodes a l->a<=nodes.length->(nodes.take (a+aB l)).drop a=bN a l
 | [],a,h,ha=>by
  rw [bN];exact iC (by rw [aB,jv,cX];omega)
 | t::r,a,h,ha=>by
  rw [ed] at h;have hle:=eF.le _ _ h.1;have F:=eF.fl t a h.1;have I:=ed.fl r (a+aK t) h.2 hle;have BR:=ed.le r _ h.2 hle;rw [bN,<-F,<-I,aB,show a+(aK t+aB r)=a+aK t+aB r by omega]
  have h3:nodes.take (a+aK t)=(nodes.take (a+aK t+aB r)).take (a+aK t):=by rw [List.take_take,Nat.min_eq_left aq]
  rw [h3];generalize hm:nodes.take (a+aK t+aB r)=m
  have fJ:m.length=a+aK t+aB r:=by rw [<-hm,cX];omega
  rw [<-List.drop_append_of_le_length (by rw [cX];omega),take_append_drop]
end
theorem ed.all {nodes:List Nd} {l:List T} (h:ed nodes 0 l) (hl:aB l=nodes.length):nodes=bN 0 l:=by
 have:=ed.fl l 0 h (aM _);rw [cI,hl,bW,List.drop_zero] at this;exact this
def pF (n:Int):ae:=if n < 0 then 45::dj n.natAbs else dj n.toNat
def tE (s:ae):Int:=match levels.findIdx? (fun l=>l.contains s) with | some i=>(i:Int) | none => -1
def vt (b:Bool) (x:ae):ae:=if b=true then (40::x)++[41] else x
def mM (t:T) (least:Int):Bool:=(t.n.kind==6)&&decide (tE t.n.s < least)
def vi (n:Nd) (l:List T) (x:List ae):ae :=
 if n.kind=1 then pF n.n
 else if n.kind=3 then ((n.s++[91])++x.getD 0 [])++[93]
 else if n.kind=4 then ((n.s++[40])++bX x)++[41]
 else if n.kind=5 then (n.s++[32])++(match l with | a::_=>vt (a.n.kind==6) (x.getD 0 []) | []=>[])
 else if n.kind=6 then (match l with
  | a::b::_=>(((vt (mM a (tE n.s)) (x.getD 0 [])++[32])++n.s)++[32])++vt (mM b (tE n.s+1)) (x.getD 1 [])
  | _=>[])
 else n.s
mutual
def dB:T->ae
 | .mk n l=>vi n l (gY l)
def gY:List T->List ae
 | []=>[]
 | t::r=>dB t::gY r
end
theorem Qm (t:T):dB t=vi t.n t.kids (gY t.kids):=by cases t;rw [dB];rfl
theorem EC (l:List T):gY l=l.map dB:=by
 induction l with
 | nil=>rfl
 | cons t l ih=>rw [gY,ih];rfl
mutual
def lA:T->Nat
 | .mk n l=>n.s.length+60+iy l
def iy:List T->Nat
 | []=>0
 | t::r=>lA t+iy r
end
theorem qu (t:T):lA t=t.n.s.length+60+iy t.kids:=by cases t;rw [lA];rfl
theorem vk {l:List T} {t:T} (h:t∈l):lA t<=iy l:=by
 induction l with
 | nil=>cases h
 | cons a l ih =>
  rw [iy]
  rcases de h with rfl | h
  ·omega
  ·have:=ih h;omega
theorem R4 (l:List T):l.length * 60<=iy l:=by
 induction l with
 | nil=>simp
 | cons t l ih=>rw [iy,qu,length_cons];omega
theorem ET {n:Nat} (h:n < 100000000000000000000):(dj n).length<=20:=JQ 19 n (by simpa using h)
theorem zF {n:Int} (h : -9223372036854775808<=n/\n<=9223372036854775807):(pF n).length<=21:=by
 unfold pF;split
 ·have:=ET (n:=n.natAbs) aq;simp only [length_cons];omega
 ·have:=ET (n:=n.toNat) aq;omega
theorem Ac (b:Bool) (x:ae):(vt b x).length<=x.length+2:=by
 unfold vt;split <;> simp
theorem GJ:∀ (r:List ae),(r.flatMap fun y=>44::32::y).length=(r.map fun y=>y.length+2).sum
 | []=>rfl
 | z::r=>by
  have:=GJ r;simp only [flatMap_cons,aO,List.map_cons,sum_cons,length_cons] at this |-;omega
theorem B1:∀ (x:List ae),(bX x).length<=(x.map fun y=>y.length+2).sum
 | []=>by simp [bX]
 | y::r=>by
  have h:=GJ r;rw [List.map_cons,sum_cons,bX,aO,h];omega
mutual
def rF:T->Prop
 | .mk n l=>(-9223372036854775808<=n.n/\n.n<=9223372036854775807)/\rG l
def rG:List T->Prop
 | []=>True
 | t::r=>rF t/\rG r
end
theorem sD (t:T):rF t↔(-9223372036854775808<=t.n.n/\t.n.n<=9223372036854775807)/\rG t.kids:=by cases t;rw [rF];exact Iff.rfl
theorem kZ {l:List T} {t:T} (h:rG l) (ht:t∈l):rF t:=by
 induction l with
 | nil=>cases ht
 | cons a l ih =>
  rw [rG] at h
  rcases de ht with rfl | ht
  ·exact h.1
  ·exact ih h.2 ht
theorem xy:∀ (N:Nat) (t:T),aK t<=N->rF t->(dB t).length+4<=lA t:=by
 intro N
 induction N with
 | zero=>intro t h;rw [fA] at h;omega
 | succ N ih =>
  intro t hN hn;rw [fA] at hN;rw [sD] at hn
  have hk:∀ a∈t.kids,(dB a).length+4<=lA a:=fun a ha=>by
   refine ih a ?_ (kZ hn.2 ha)
   have:∀ (l:List T),a∈l->aK a<=aB l:=by
    intro l
    induction l with
    | nil=>intro h;cases h
    | cons b l ih2 =>
     intro h;rw [aB]
     rcases de h with rfl | h
     ·omega
     ·have:=ih2 h;omega
   have:=this _ ha;omega
  have acs:((gY t.kids).map fun y=>y.length+2).sum<=iy t.kids:=by
   have:∀ (l:List T),(∀ a∈l,(dB a).length+4<=lA a)->((gY l).map fun y=>y.length+2).sum<=iy l:=by
    intro l
    induction l with
    | nil=>intro _;simp [gY]
    | cons a l ih2 =>
     intro h;have F:=h a (mem_cons_self)
     have I:=ih2 fun b hb=>h b (dw _ hb)
     rw [gY,iy,List.map_cons,sum_cons];omega
   exact this _ hk
  have h0:((gY t.kids).getD 0 []).length<=iy t.kids:=by
   cases hl:t.kids with
   | nil=>simp [gY]
   | cons a r =>
    have:=hk a (by rw [hl];exact mem_cons_self);rw [gY,iy];simp;omega
  have h01:∀ a b r,t.kids=a::b::r->((gY t.kids).getD 0 []).length+((gY t.kids).getD 1 []).length+8<=iy t.kids:=fun a b r hl=>by
   have F:=hk a (by rw [hl];exact mem_cons_self);have I:=hk b (by rw [hl];exact dw _ mem_cons_self);rw [hl,gY,gY,iy,iy];simp;omega
  rw [Qm,qu];unfold vi;split
  ·have:=zF hn.1;omega
  ·split
   ·simp only [aO,length_cons,length_nil];omega
   ·split
    ·have:=B1 (gY t.kids);simp only [aO,length_cons,length_nil];omega
    ·split
     ·cases hl:t.kids with
      | nil=>simp <;> omega
      | cons a r =>
       simp only [aO,length_cons,length_nil];have:=Ac (a.n.kind==6) ((gY (a::r)).getD 0 []);rw [hl] at h0;omega
     ·split
      ·match hl:t.kids with
       | []=>simp <;> omega
       | [a]=>simp <;> omega
       | a::b::r =>
        have F:=h01 a b r hl;rw [hl] at F;have I:=Ac (mM a (tE t.n.s)) ((gY (a::b::r)).getD 0 []);have h3:=Ac (mM b (tE t.n.s+1)) ((gY (a::b::r)).getD 1 []);simp only [aO,length_cons,length_nil];omega
      ·omega
def yP (own:ae) (n:Nd) (k:Nat) (x b:List ae):ae :=
 if n.kind=13 then ((([118,97,114,32]++n.s)++[32,61,32])++x.getD 0 [])++[59]
 else if n.kind=7 then ((n.s++[32,61,32])++x.getD 0 [])++[59]
 else if n.kind=8 then ((((n.s++[91])++x.getD 0 [])++[93,32,61,32])++x.getD 1 [])++[59]
 else if n.kind=9 then (if k=3 then ((([105,102,32,40]++x.getD 0 [])++[41,32])++b.getD 1 [])++([32,101,108,115,101,32]++b.getD 2 []) else (([105,102,32,40]++x.getD 0 [])++[41,32])++b.getD 1 [])
 else if n.kind=10 then (([119,104,105,108,101,32,40]++x.getD 0 [])++[41,32])++b.getD 1 []
 else if n.kind=11 then ([114,101,116,117,114,110,32]++x.getD 0 [])++[59]
 else if n.kind=12 then x.getD 0 []++[59]
 else own
section
variable (tx:T->ae) (inl:List ae->Nat->ae)
mutual
def lz:Nat->T->ae
 | d,.mk n l=>yP (tx (.mk n l)) n l.length (l.map tx) (rh d l)
def rh:Nat->List T->List ae
 | _,[]=>[]
 | d,t::r=>oC d t::rh d r
def oC:Nat->T->ae
 | d,.mk n l=>inl (yO (d+1) l) d
def yO:Nat->List T->List ae
 | _,[]=>[]
 | d,t::r=>lz d t::yO d r
end
end
theorem Qd (tx:T->ae) (inl:List ae->Nat->ae) (d:Nat) (t:T):lz tx inl d t=yP (tx t) t.n t.kids.length (t.kids.map tx) (rh tx inl d t.kids):=by cases t;rw [lz];rfl
theorem Nz (tx:T->ae) (inl:List ae->Nat->ae) (d:Nat) (t:T):oC tx inl d t=inl (yO tx inl (d+1) t.kids) d:=by cases t;rw [oC];rfl
theorem JL (tx:T->ae) (inl:List ae->Nat->ae) (d:Nat) (l:List T):rh tx inl d l=l.map (oC tx inl d):=by
 induction l with
 | nil=>rfl
 | cons t l ih=>rw [rh,ih];rfl
theorem Ld (tx:T->ae) (inl:List ae->Nat->ae) (d:Nat) (l:List T):yO tx inl d l=l.map (lz tx inl d):=by
 induction l with
 | nil=>rfl
 | cons t l ih=>rw [yO,ih];rfl
def tP (acc:ae) (l:List ae):ae:=l.foldl (fun acc s=>acc++(s++[32])) acc
def gP (l:List ae) (d:Nat):ae:=tP [123,32] l++[125]
def lO:List ae->Nat
 | []=>0
 | s::l=>s.length+1+lO l
theorem uJ (l:List ae):∀ acc,(tP acc l).length=acc.length+lO l:=by
 induction l with
 | nil=>intro acc;simp [tP,lO]
 | cons s l ih =>
  intro acc;have:=ih (acc++(s++[32]));simp only [tP,foldl_cons,lO,aO,length_cons,length_nil] at this |-;omega
theorem IA (a b:List ae):lO (a++b)=lO a+lO b:=by
 induction a with
 | nil=>simp [lO]
 | cons s a ih=>simp only [cons_append,lO,ih];omega
theorem Qg (l:List ae) (k:Nat):lO (l.take k)<=lO l:=by
 have:lO l=lO (l.take k)+lO (l.drop k):=by rw [<-IA,take_append_drop]
 omega
theorem NF (acc:ae) (l:List ae) (s:ae):tP acc (l++[s])=tP acc l++(s++[32]):=by simp [tP]
theorem VJ {l:List ae} {s:ae} (h:s∈l):s.length<=lO l:=by
 induction l with
 | nil=>cases h
 | cons a l ih =>
  rw [lO]
  rcases de h with rfl | h
  ·omega
  ·have:=ih h;omega
theorem RE {l:List ae} {d:Nat} {s:ae} (h:s∈l):s.length<=(gP l d).length:=by
 have F:=VJ h;have I:=uJ l [123,32];unfold gP;rw [aO,I];omega
def g1 (s:ae):ae:=([105,110,116,32]++s)++[59,10]
def a1 (a:Ar):ae:=((([105,110,116,32]++a.name)++[91])++pF a.size)++[93,59,10]
def cy (tx:T->ae) (inl:List ae->Nat->ae) (x:Fn × T):ae:=((((([102,117,110,99,32]++x.1.name)++[40])++bX x.1.params)++[41,32])++oC tx inl 0 x.2)++[10]
def dW {α:Type} (f:α->ae):ae->List α->ae
 | acc,[]=>acc
 | acc,x::l=>dW f (acc++f x) l
theorem yX {α:Type} (f:α->ae) (l:List α) (x:α):∀ acc,dW f acc (l++[x])=dW f acc l++f x:=by
 induction l with
 | nil=>intro acc;rfl
 | cons y l ih=>intro acc;simp only [cons_append,dW];exact ih _
theorem Q1 {α:Type} (f:α->ae) (l k:List α):∀ acc,dW f acc (l++k)=dW f (dW f acc l) k:=by
 induction l with
 | nil=>intro acc;rfl
 | cons y l ih=>intro acc;simp only [cons_append,dW];exact ih _
theorem DU {α:Type} (f:α->ae) (l:List α):∀ acc,acc.length<=(dW f acc l).length:=by
 induction l with
 | nil=>intro acc;exact aE _
 | cons y l ih=>intro acc;have:=ih (acc++f y);rw [dW];rw [aO] at this;omega
theorem yY {α:Type} (f:α->ae) (l:List α) (k:Nat) (acc:ae):(dW f acc (l.take k)).length<=(dW f acc l).length:=by
 have:dW f acc l=dW f (dW f acc (l.take k)) (l.drop k):=by rw [<-Q1,take_append_drop]
 rw [this];exact DU f _ _
def ox (tx:T->ae) (inl:List ae->Nat->ae) (p:Src) (trees:List T):ae:=dW (cy tx inl) (dW a1 (dW g1 [] p.globals) p.arrays) (p.fns.zip trees)
end Go.Im
namespace Go.Im
def gx {α:Type} (p:α->α->Bool):List α->List α->Bool
 | [],[]=>true
 | a::r,b::s=>p a b&&gx p r s
 | _,_=>false
theorem Ah {α:Type} {p:α->α->Bool}:∀ {a b:List α},gx p a b=true->a.length=b.length
 | [],[],_=>rfl
 | a::r,b::s,h=>by rw [gx,aC] at h;rw [length_cons,length_cons,Ah h.2]
 | [],b::s,h=>by cases h
 | a::r,[],h=>by cases h
theorem tl {α:Type} {p:α->α->Bool} {a b:List α} (h:a.length≠b.length):gx p a b=false:=by
 cases hc:gx p a b with
 | false=>rfl
 | true=>exact absurd (Ah hc) h
theorem Gy {α:Type} {p:α->α->Bool}:∀ {a b:List α} {k:Nat} {x y:α},a[k]?=some x->b[k]?=some y->gx p a b=true->p x y=true
 | a::r,b::s,0,x,y,F,I,h=>by cases F;cases I;rw [gx,aC] at h;exact h.1
 | a::r,b::s,k+1,x,y,F,I,h=>by rw [gx,aC] at h;exact Gy (by simpa using F) (by simpa using I) h.2
 | [],_,k,x,y,F,I,h=>by simp at F
 | a::r,[],k,x,y,F,I,h=>by simp at I
theorem tq {α:Type} {p:α->α->Bool} {a b:List α} {k:Nat} {x y:α} (F:a[k]?=some x) (I:b[k]?=some y) (h:p x y=false):gx p a b=false:=by
 cases hc:gx p a b with
 | false=>rfl
 | true=>have:=Gy F I hc;rw [h] at this;cases this
theorem JV {α:Type} {p:α->α->Bool}:∀ {a b:List α},a.length=b.length->(∀ (k:Nat) x y,a[k]?=some x->b[k]?=some y->p x y=true)->gx p a b=true
 | [],[],_,_=>rfl
 | a::r,b::s,hl,h=>by
  rw [gx,h 0 a b rfl rfl,JV (by simpa using hl) fun k x y F I=>h (k+1) x y (by simpa using F) (by simpa using I)];rfl
 | [],b::s,hl,h=>by simp at hl
 | a::r,[],hl,h=>by simp at hl
def uL {α:Type} (p:α->α->Bool) (a b:List α) (k:Nat):Prop:=∀ j x y,j < k->a[j]?=some x->b[j]?=some y->p x y=true
theorem nB {α:Type} {p:α->α->Bool} {a b:List α} {k:Nat} {x y:α} (F:a[k]?=some x) (I:b[k]?=some y) (h:uL p a b k) (hp:p x y=true):uL p a b (k+1):=fun j u v hj h3 h4=>by
 by_cases he:j=k
 ·subst he;rw [F] at h3;rw [I] at h4;cases h3;cases h4;exact hp
 ·exact h j u v aq h3 h4
theorem oR {α:Type} {p:α->α->Bool} {a b:List α} (hl:a.length=b.length) (h:uL p a b a.length):gx p a b=true :=
 JV hl fun k x y F I=>h k x y (bo F).1 F I
def sZ (a b:Go.Sp.Fn):Bool:=((a.name==b.name)&&gx (fun x y=>x==y) a.params b.params)&&(a.body==b.body)
def mi (a b:Go.Xp.Nd):Bool:=(((a.kind==b.kind)&&(a.n==b.n))&&(a.s==b.s))&&gx (fun x y=>x==y) a.kids b.kids
def AV (x y:Go.Xp.Ar):Bool:=(x.name==y.name)&&(x.size==y.size)
open Go.Xp Go.Sp
theorem JZ (l:List T):(aV l).length=l.length:=by rw [ur,bP]
theorem y7 (t:T):(er t).n=⟨t.n.kind,0,t.n.n,t.n.s,[]⟩:=by cases t;rw [er];rfl
theorem UK (t:T):(er t).kids=aV t.kids:=by cases t;rw [er];rfl
mutual
theorem xw:∀ t:T,aK (er t)=aK t
 | .mk n l=>by rw [er,aK,aK,xv l]
theorem xv:∀ l:List T,aB (aV l)=aB l
 | []=>by rw [aV]
 | t::r=>by rw [aV,aB,aB,xw t,xv r]
end
theorem Fq (m:Nat):∀ (l:List T) (i:Nat),bI m i (aV l)=bI m i l
 | [],i=>by rw [aV]
 | t::r,i=>by rw [aV,bI,bI,Fq m r (i+1),y7]
theorem FQ:∀ (l:List T),(aV l).all (fun x=>iR x.n.kind)=l.all (fun x=>iR x.n.kind)
 | []=>by rw [aV]
 | t::r=>by rw [aV,all_cons,all_cons,FQ r,y7]
theorem Yq (n:Nd) (k:Nat) (kd:Nat->Bool) (bl:Bool) (h:0<=n.at_) (h':own ⟨n.kind,0,n.n,n.s,[]⟩ k kd bl=true):own n k kd bl=true:=by
 unfold own at h' |-;rw [L (by simp)] at h';rw [L (by simpa using h)];exact h'
mutual
theorem Nv:∀ t:T,dP (er t)=true->yV t->dP t=true
 | .mk n l,h,ha=>by
  rw [er,dP,aC] at h;rw [yV] at ha;rw [dP,aC];refine ⟨JI l h.1 ha.2,?_⟩;have I:own ⟨n.kind,0,n.n,n.s,[]⟩ (aV l).length (fun m=>bI m 0 (aV l)) ((aV l).all fun x=>iR x.n.kind)=true:=h.2;rw [JZ,FQ] at I;simp only [Fq] at I;exact Yq n _ _ _ ha.1 I
theorem JI:∀ l:List T,cE (aV l)=true->nI l->cE l=true
 | [],_,_=>rfl
 | t::r,h,ha=>by
  rw [aV,cE,aC] at h;rw [nI] at ha;rw [cE,aC];exact ⟨Nv t h.1 ha.1,JI r h.2 ha.2⟩
end
mutual
theorem Nu:∀ t:T,dP t=true->yV t
 | .mk n l,h=>by
  rw [dP,aC] at h;rw [yV];refine ⟨?_,JH l h.1⟩;have I:own n l.length (fun m=>bI m 0 l) (l.all fun x=>iR x.n.kind)=true:=h.2
  by_cases h0:n.at_ < 0
  ·unfold own at I;rw [ab (by simpa using h0)] at I;cases I
  ·omega
theorem JH:∀ l:List T,cE l=true->nI l
 | [],_=>trivial
 | t::r,h=>by
  rw [cE,aC] at h;rw [nI];exact ⟨Nu t h.1,JH r h.2⟩
end
theorem lX (a:E):oa a.tree.n.kind=true:=by cases a <;> rfl
mutual
theorem E.gZ:∀ a:E,a.ok=true->dP a.tree=true
 | .num n,h=>by
  simp only [E.ok,aC] at h;rw [E.tree,dP,cE];simp [cv,own,T.n,T.kids];exact h
 | .name s,h=>by
  simp only [E.ok] at h;rw [E.tree,dP,cE];simp [cv,own,T.n,T.kids,h]
 | .at_ s a,h=>by
  simp only [E.ok,aC] at h;have I:=E.gZ a h.2;have h3:=lX a;rw [E.tree,dP,cE,cE,I];simp [cv,own,T.n,T.kids,h.1,bI];exact h3
 | .call s l,h=>by
  simp only [E.ok,aC] at h;obtain ⟨I,h3⟩:=E.tI l h.2;rw [E.tree,dP,I];have:=h3 (E.trees l).length 0 aq;simp [cv,own,T.n,T.kids,h.1,this]
 | .un s a,h=>by
  simp only [E.ok,aC] at h;have I:=E.gZ a h.2;have h3:=lX a;rw [E.tree,dP,cE,cE,I];simp [cv,own,T.n,T.kids,bI];exact ⟨by simpa using h.1,h3⟩
 | .bin s a b,h=>by
  simp only [E.ok,aC] at h;have I:=E.gZ a h.1.2;have h3:=lX a;have h4:=E.gZ b h.2;have h5:=lX b;rw [E.tree,dP,cE,cE,cE,I,h4];simp [cv,own,T.n,T.kids,bI,h.1.1];exact ⟨h3,h5⟩
theorem E.tI:∀ l:List E,E.db l=true->cE (E.trees l)=true/\∀ m i,i+(E.trees l).length<=m->bI m i (E.trees l)=true
 | [],_=>⟨rfl,fun m i _=>rfl⟩
 | a::l,h=>by
  simp only [E.db,aC] at h;obtain ⟨I,h3⟩:=E.tI l h.2;refine ⟨by rw [E.trees,cE,E.gZ a h.1,I];rfl,fun m i hm=>?_⟩;rw [E.trees,length_cons] at hm;rw [E.trees,bI,ab aq,lX a,h3 m (i+1) aq];rfl
end
theorem Yw (a:S):iR a.tree.n.kind=true:=by cases a <;> rfl
mutual
theorem S.gZ:∀ a:S,a.ok=true->dP a.tree=true
 | .set s a,h=>by
  simp only [S.ok,aC] at h;have I:=E.gZ a h.2;have h3:=lX a;rw [S.tree,dP,cE,cE,I];simp [cv,own,T.n,T.kids,h.1,bI];exact h3
 | .var s a,h=>by
  simp only [S.ok,aC] at h;have I:=E.gZ a h.2;have h3:=lX a;rw [S.tree,dP,cE,cE,I];simp [cv,own,T.n,T.kids,h.1,bI];exact h3
 | .ret a,h=>by
  simp only [S.ok] at h;have I:=E.gZ a h;have h3:=lX a;rw [S.tree,dP,cE,cE,I];simp [cv,own,T.n,T.kids,bI];exact h3
 | .do_ a,h=>by
  simp only [S.ok] at h;have I:=E.gZ a h;have h3:=lX a;rw [S.tree,dP,cE,cE,I];simp [cv,own,T.n,T.kids,bI];exact h3
 | .put s a b,h=>by
  simp only [S.ok,aC] at h;have I:=E.gZ a h.2.1;have h3:=lX a;have h4:=E.gZ b h.2.2;have h5:=lX b;rw [S.tree,dP,cE,cE,cE,I,h4];simp [cv,own,T.n,T.kids,bI,h.1];exact ⟨h3,h5⟩
 | .if1 c b,h=>by
  simp only [S.ok,aC] at h;have I:=E.gZ c h.1;have h3:=lX c;have h4:=S.wH b h.2;rw [S.tree,dP,cE,cE,cE,I,h4];simp [cv,own,T.n,T.kids,bI];exact h3
 | .if2 c b b2,h=>by
  simp only [S.ok,aC] at h;have I:=E.gZ c h.1;have h3:=lX c;have h4:=S.wH b h.2.1;have h5:=S.wH b2 h.2.2;rw [S.tree,dP,cE,cE,cE,cE,I,h4,h5];simp [cv,own,T.n,T.kids,bI];exact h3
 | .while_ c b,h=>by
  simp only [S.ok,aC] at h;have I:=E.gZ c h.1;have h3:=lX c;have h4:=S.wH b h.2;rw [S.tree,dP,cE,cE,cE,I,h4];simp [cv,own,T.n,T.kids,bI];exact h3
theorem S.wH:∀ l:List S,S.db l=true->dP (.mk ⟨14,0,0,[],[]⟩ (S.trees l))=true
 | l,h=>by
  obtain ⟨F,I⟩:=S.tI l h;have h3:cv (.mk ⟨14,0,0,[],[]⟩ (S.trees l))=own ⟨14,0,0,[],[]⟩ (S.trees l).length (fun m=>bI m 0 (S.trees l)) ((S.trees l).all fun x=>iR x.n.kind):=rfl;rw [dP,F,h3,I];simp [own]
theorem S.tI:∀ l:List S,S.db l=true->cE (S.trees l)=true/\(S.trees l).all (fun x=>iR x.n.kind)=true
 | [],_=>⟨rfl,rfl⟩
 | a::l,h=>by
  simp only [S.db,aC] at h;obtain ⟨F,I⟩:=S.tI l h.2;exact ⟨by rw [S.trees,cE,S.gZ a h.1,F];rfl,by rw [S.trees,all_cons,I,Yw a];rfl⟩
end
theorem Z2 {n:Nd} {k:Nat} {kd:Nat->Bool} {bl:Bool} (h:own n k kd bl=true):dJ n.kind k=true:=by
 have hc:n.kind=1\/n.kind=2\/n.kind=3\/n.kind=4\/n.kind=5\/n.kind=6\/n.kind=7\/n.kind=8\/n.kind=9\/n.kind=10\/n.kind=11\/n.kind=12\/n.kind=13\/n.kind=14\/(n.kind < 1\/14 < n.kind):=by omega
 unfold own at h
 by_cases h0:decide (n.at_ < 0)=true
 ·rw [ab h0] at h;cases h
 rw [L h0] at h
 by_cases F:(n.kind != 1&&n.n != 0)=true
 ·rw [ab F] at h;cases h
 rw [L F] at h;clear h0 F
 rcases hc with hk | hk | hk | hk | hk | hk | hk | hk | hk | hk | hk | hk | hk | hk | hk
 all_goals (first | (simp [hk] at h;simp [dJ,hk];done) | (simp [hk] at h;simp [dJ,hk];omega) | (simp [hk] at h;simp [dJ,hk,h];done) | skip)
 ·exfalso
  have e1:(n.kind==1)=false:=by simp;omega
  have e2:(n.kind==2)=false:=by simp;omega
  have e3:(n.kind==3)=false:=by simp;omega
  have e4:(n.kind==4)=false:=by simp;omega
  have e5:(n.kind==5)=false:=by simp;omega
  have e6:(n.kind==6)=false:=by simp;omega
  have e7:(n.kind==7)=false:=by simp;omega
  have e8:(n.kind==8)=false:=by simp;omega
  have e9:(n.kind==9)=false:=by simp;omega
  have e10:(n.kind==10)=false:=by simp;omega
  have e11:(n.kind==11)=false:=by simp;omega
  have e12:(n.kind==12)=false:=by simp;omega
  have e13:(n.kind==13)=false:=by simp;omega
  have e14:(n.kind==14)=false:=by simp;omega
  rw [e1,e2,e3,e4,e5,e6,e7,e8,e9,e10,e11,e12,e13,e14] at h;simp at h
mutual
theorem Tc:∀ t:T,dP t=true->iT t=true
 | .mk n l,h=>by
  rw [dP,aC] at h;rw [iT,Nw l h.1,Bool.and_true];exact Z2 h.2
theorem Nw:∀ l:List T,cE l=true->wj l=true
 | [],_=>rfl
 | t::r,h=>by
  rw [cE,aC] at h;rw [wj,Tc t h.1,Nw r h.2];rfl
end
theorem R5 (t:T) (z:Int):mM (er t) z=mM t z:=by unfold mM;rw [y7]
theorem VQ (n:Nd) (l:List T) (x:List ae):vi ⟨n.kind,0,n.n,n.s,[]⟩ (aV l) x=vi n l x:=by
 unfold vi
 match l with
 | []=>rw [aV]
 | [a]=>rw [aV,aV];simp only [y7]
 | a::b::r=>rw [aV,aV];simp only [y7,R5]
mutual
theorem Qn:∀ t:T,dB (er t)=dB t
 | .mk n l=>by rw [er,dB,dB,EB l,VQ]
theorem EB:∀ l:List T,gY (aV l)=gY l
 | []=>by rw [aV]
 | t::r=>by rw [aV,gY,gY,Qn t,EB r]
end
mutual
theorem YD (inl:List ae->Nat->ae):∀ (t:T) (d:Nat),lz dB inl d (er t)=lz dB inl d t
 | .mk n l,d=>by
  have h:=Qn (.mk n l);rw [er] at h |-;rw [lz,lz,h,JK inl l d,JZ]
  have:(aV l).map dB=l.map dB:=by rw [<-EC,<-EC,EB]
  rw [this];rfl
theorem JK (inl:List ae->Nat->ae):∀ (l:List T) (d:Nat),rh dB inl d (aV l)=rh dB inl d l
 | [],d=>by rw [aV]
 | t::r,d=>by rw [aV,rh,rh,NA inl t d,JK inl r d]
theorem NA (inl:List ae->Nat->ae):∀ (t:T) (d:Nat),oC dB inl d (er t)=oC dB inl d t
 | .mk n l,d=>by rw [er,oC,oC,Lc inl l (d+1)]
theorem Lc (inl:List ae->Nat->ae):∀ (l:List T) (d:Nat),yO dB inl d (aV l)=yO dB inl d l
 | [],d=>by rw [aV]
 | t::r,d=>by rw [aV,yO,yO,YD inl t d,Lc inl r d]
end
theorem PD {s:ae} (h:eT s=true):tE s=(eQ s:Int):=by
 unfold tE eQ
 cases hf:levels.findIdx? (fun l=>l.contains s) with
 | some i=>rfl
 | none =>
  rw [List.findIdx?_eq_none_iff] at hf;unfold eT at h;rw [nX] at h;obtain ⟨l,F,I⟩:=h;have:=hf l F;rw [I] at this;cases this
theorem KB {a:E} (h:a.ok=true) (k:Nat) (hk:k<=9):mM a.tree (k:Int)=decide (a.lv < k):=by
 have key:∀ b:Bool,(false&&b)=decide (9 < k):=fun b=>by rw [Bool.false_and,decide_eq_false aq]
 cases a with
 | bin s x y =>
  simp only [E.ok,aC] at h;show (true&&decide (tE s < (k:Int)))=decide (eQ s < k);rw [PD h.1.1,Bool.true_and];exact decide_eq_decide.2 aq
 | num n=>exact key _
 | name n=>exact key _
 | at_ s a=>exact key _
 | call s l=>exact key _
 | un s a=>exact key _
theorem DT (lv k:Nat) (x:ae):vt (decide (lv < k)) x=rV lv k x:=by
 unfold vt rV
 by_cases h:lv < k
 ·rw [ab (by simpa using h),ab h]
 ·rw [L (by simpa using h),L h]
theorem V7 {a:E} (h:a.ok=true):(a.tree.n.kind==6)=decide (a.lv < 9):=by
 cases a with
 | bin s x y =>
  simp only [E.ok,aC] at h;have:=(qP h.1.1).1;show true=decide (eQ s < 9);exact (decide_eq_true this).symm
 | _=>rfl
mutual
theorem kv:∀ a:E,a.ok=true->dB a.tree=a.bF
 | .num n,h=>by
  simp only [E.ok,aC,decide_eq_true_eq] at h;rw [E.tree,dB,E.bF];unfold vi pF;simp only [if_true];rw [L aq]
 | .name s,h=>by
  rw [E.tree,dB,E.bF];simp [vi]
 | .at_ s a,h=>by
  simp only [E.ok,aC] at h;have I:=kv a h.2;rw [E.tree,dB,gY,gY,I,E.bF];simp [vi]
 | .call s l,h=>by
  simp only [E.ok,aC] at h;rw [E.tree,dB,Lm l h.2,E.bF];simp [vi]
 | .un s a,h=>by
  simp only [E.ok,aC] at h;have I:=kv a h.2;rw [E.tree,dB,gY,gY,I,E.bF,<-DT,<-V7 h.2];simp [vi]
 | .bin s a b,h=>by
  simp only [E.ok,aC] at h;have I:=kv a h.1.2;have h3:=kv b h.2;have hl:=(qP h.1.1).1;have e1:=KB h.1.2 (eQ s) aq;have e2:=KB h.2 (eQ s+1) aq;rw [E.tree,dB,gY,gY,gY,I,h3,E.bF,<-DT,<-DT,<-e1,<-e2];unfold vi;simp only [PD h.1.1];simp
theorem Lm:∀ l:List E,E.db l=true->gY (E.trees l)=E.dv l
 | [],_=>rfl
 | a::l,h=>by
  simp only [E.db,aC] at h;rw [E.trees,gY,E.dv,kv a h.1,Lm l h.2]
end
theorem ER (x:E->ae):∀ (l:List S) (acc:ae),tP acc (l.map (S.bF x))=S.dv x acc l
 | [],acc=>by rw [S.dv];rfl
 | a::l,acc=>by
  rw [S.dv,<-ER x l];simp [tP,cS]
mutual
theorem VE:∀ (s:S),s.ok=true->∀ d,lz dB gP d s.tree=s.bF E.bF
 | .set s a,h,d=>by
  simp only [S.ok,aC] at h;rw [S.tree,lz,List.map_cons,kv a h.2,S.bF];simp [yP]
 | .var s a,h,d=>by
  simp only [S.ok,aC] at h;rw [S.tree,lz,List.map_cons,kv a h.2,S.bF];simp [yP]
 | .ret a,h,d=>by
  simp only [S.ok] at h;rw [S.tree,lz,List.map_cons,kv a h,S.bF];simp [yP]
 | .do_ a,h,d=>by
  simp only [S.ok] at h;rw [S.tree,lz,List.map_cons,kv a h,S.bF];simp [yP]
 | .put s a b,h,d=>by
  simp only [S.ok,aC] at h;rw [S.tree,lz,List.map_cons,List.map_cons,kv a h.2.1,kv b h.2.2,S.bF];simp [yP]
 | .if1 c b,h,d=>by
  simp only [S.ok,aC] at h;have hb:=wG b h.2 d;rw [S.tree,lz,List.map_cons,kv c h.1,rh,rh,rh,hb,S.bF];simp [yP,gg]
 | .if2 c b b2,h,d=>by
  simp only [S.ok,aC] at h;have hb:=wG b h.2.1 d;have eA:=wG b2 h.2.2 d;rw [S.tree,lz,List.map_cons,kv c h.1,rh,rh,rh,rh,hb,eA,S.bF];simp [yP,gg]
 | .while_ c b,h,d=>by
  simp only [S.ok,aC] at h;have hb:=wG b h.2 d;rw [S.tree,lz,List.map_cons,kv c h.1,rh,rh,rh,hb,S.bF];simp [yP,gg]
theorem wG:∀ (l:List S),S.db l=true->∀ d,oC dB gP d (.mk ⟨14,0,0,[],[]⟩ (S.trees l))=gg E.bF l
 | l,h,d=>by
  rw [oC,Le l h (d+1),gP,ER];rfl
theorem Le:∀ (l:List S),S.db l=true->∀ d,yO dB gP d (S.trees l)=l.map (S.bF E.bF)
 | [],_,d=>by rw [S.trees,yO];rfl
 | a::l,h,d=>by
  simp only [S.db,aC] at h;rw [S.trees,yO,List.map_cons,VE a h.1,Le l h.2]
end
theorem so {α:Type} {p:α->α->Bool} (h:∀ x,p x x=true):∀ l:List α,gx p l l=true
 | []=>rfl
 | a::l=>by rw [gx,h a,so h l];rfl
theorem Ag {α:Type} [BEq α] [LawfulBEq α]:∀ {a b:List α},gx (fun x y=>x==y) a b=true->a=b
 | [],[],_=>rfl
 | a::r,b::s,h=>by rw [gx,aC,beq_iff_eq] at h;rw [h.1,Ag h.2]
 | [],b::s,h=>by cases h
 | a::r,[],h=>by cases h
theorem JW {α:Type} {p:α->α->Bool}:∀ {a b:List α} {c d:List α},a.length=b.length->gx p (a++c) (b++d)=(gx p a b&&gx p c d)
 | [],[],c,d,_=>rfl
 | a::r,b::s,c,d,h=>by rw [cons_append,cons_append,gx,gx,JW (by simpa using h),Bool.and_assoc]
 | [],b::s,_,_,h=>by simp at h
 | a::r,[],_,_,h=>by simp at h
theorem x7:∀ (l:List T) (a:Nat),bh a (aV l)=bh a l
 | [],a=>by rw [aV]
 | t::r,a=>by rw [aV,bh,bh,xw,x7 r]
mutual
theorem UO:∀ (t u:T) (a:Nat),er t=er u->gx mi (eN a t) (eN a u)=true
 | .mk n l,.mk m k,a,h=>by
  rw [er,er] at h
  injection h with F I
  injection F with h3 h4 h5 h6 h7
  rw [eN,eN,gx,D2 l k (a+1) I,Bool.and_true,<-x7 l,<-x7 k,I];simp only [mi,h3,h5,h6];simp [so]
theorem D2:∀ (l k:List T) (a:Nat),aV l=aV k->gx mi (bN a l) (bN a k)=true
 | [],[],a,_=>by rw [bN];rfl
 | t::r,u::s,a,h=>by
  rw [aV,aV] at h
  injection h with F I
  have hz:aK t=aK u:=by rw [<-xw t,F,xw u]
  rw [bN,bN,JW (by rw [sq,sq,hz]),UO t u a F,<-hz,D2 r s _ I];rfl
 | [],u::s,a,h=>by rw [aV,aV] at h;cases h
 | t::r,[],a,h=>by rw [aV,aV] at h;cases h
end
mutual
theorem Vy:∀ (t u:T) (a:Nat) (x y:List Nd),gx mi (eN a t++x) (eN a u++y)=true->er t=er u/\gx mi x y=true
 | .mk n l,.mk m k,a,x,y,h=>by
  rw [eN,eN,cons_append,cons_append,gx,aC] at h;obtain ⟨F,I⟩:=h;simp only [mi,aC,beq_iff_eq] at F;obtain ⟨⟨⟨h3,h4⟩,h5⟩,h6⟩:=F;have h7:=congrArg List.length (Ag h6);rw [dF,dF] at h7;obtain ⟨h8,h9⟩:=EA l k (a+1) x y h7 I;exact ⟨by rw [er,er,h3,h4,h5,h8],h9⟩
theorem EA:∀ (l k:List T) (a:Nat) (x y:List Nd),l.length=k.length->gx mi (bN a l++x) (bN a k++y)=true->aV l=aV k/\gx mi x y=true
 | [],[],a,x,y,_,h=>by rw [bN,nil_append,nil_append] at h;exact ⟨rfl,h⟩
 | t::r,u::s,a,x,y,hl,h=>by
  rw [bN,bN,cS,cS] at h;obtain ⟨F,I⟩:=Vy t u a _ _ h
  have hz:aK t=aK u:=by rw [<-xw t,F,xw u]
  rw [<-hz] at I;obtain ⟨h3,h4⟩:=EA r s _ x y (by simpa using hl) I;exact ⟨by rw [aV,aV,F,h3],h4⟩
 | [],u::s,a,x,y,hl,h=>by simp at hl
 | t::r,[],a,x,y,hl,h=>by simp at hl
end
theorem Vx {l k:List T} (hl:l.length=k.length) (h:gx mi (bN 0 l) (bN 0 k)=true):aV l=aV k:=by
 have:=EA l k 0 [] [] hl (by rw [cY,cY];exact h);exact this.1
structure PS where
 trees:List T
 globals:List ae
 arrays:List Ar
 fns:List (ae × List ae)
def PS.empty:PS:=⟨[],[],[],[]⟩
def qk:Nat->List ae->RS->Option (List ae × RS)
 | 0,_,_=>none
 | f+1,acc,p =>
  if p.code=0/\is p 0 [41]=false then qk f (acc++[(tok (if acc.length=0 then p else want p [44]) 0).s]) (bL (if acc.length=0 then p else want p [44]))
  else some (acc,want p [41])
def iW (f:Nat) (p:RS) (st:PS):Option (RS × PS) :=
 if is p 0 mK=true then
  if (bL p.next).code=0/\is (bL p.next) 0 [91]=true then
   if (tok (bL p.next).next 0).kind=1 then
    some (want (want (bL p.next).next.next [93]) [59],{ st with arrays:=st.arrays++[⟨(tok p.next 0).s,(tok (bL p.next).next 0).n⟩] })
   else some (lE (bL p.next).next,st)
  else some (want (bL p.next) [59],{ st with globals:=st.globals++[(tok p.next 0).s] })
 else if is p 0 od=true then
  match qk f [] (want (bL p.next) [40]) with
  | none=>none
  | some (l,q) =>
   if q.code=0 then match iS f (.block 1) q with
    | none=>none
    | some (t,q)=>some (q,{ st with trees:=st.trees++[t],fns:=st.fns++[((tok p.next 0).s,l)] })
   else some (q,st)
 else some (lE p,st)
def oH:Nat->Nat->RS->PS->Option (RS × PS)
 | 0,_,_,_=>none
 | g+1,f,p,st =>
  if p.code=0/\p.i < p.l.length then match iW f p st with
   | none=>none
   | some (p,st)=>oH g f p st
  else some (p,st)
theorem Ph:∀ (f:Nat) (acc:List ae) (p:RS) (l:List ae) (q:RS),p.ok->qk f acc p=some (l,q)->p.to q
 | 0,_,_,_,_,_,h=>by cases h
 | f+1,acc,p,l,q,hp,h=>by
  rw [qk] at h;split at h
  ·have F:p.to (if acc.length=0 then p else want p [44]):=by split;exact lg hp;exact cR hp _
   have I:=jt (F.ok hp);have h3:=Ph f _ _ l q ((F.trans I).ok hp) h;exact (F.trans I).trans h3
  ·cases h;exact cR hp _
theorem Zy {f:Nat} {p q:RS} {st eX:PS} (hp:p.ok) (h:iW f p st=some (q,eX)):p.to q:=by
 unfold iW at h;split at h
 ·rename_i hi;have F:=kU hi;have I:=F.trans (jt (F.ok hp));split at h
  ·rename_i hb;have h3:=I.trans (kU hb.2);split at h
   ·rename_i hk
    have mW:(tok (bL p.next).next 0).kind≠0:=by rw [hk];decide
    have h4:=h3.trans (ep (by have:=tH mW;exact this));have h5:=h4.trans (cR (h4.ok hp) [93])
    cases h;exact h5.trans (cR (h5.ok hp) _)
   ·cases h;exact h3.trans (yy (h3.ok hp))
  ·cases h;exact I.trans (cR (I.ok hp) _)
 ·split at h
  ·rename_i hi;have F:=kU hi;have I:=F.trans (jt (F.ok hp));have h3:=I.trans (cR (I.ok hp) [40])
   cases hm:qk f [] (want (bL p.next) [40]) with
   | none=>rw [hm] at h;cases h
   | some r =>
    obtain ⟨l,q1⟩:=r;rw [hm] at h;simp only at h;have h4:=h3.trans (Ph _ _ _ _ _ (h3.ok hp) hm);split at h
    ·cases hb:iS f (.block 1) q1 with
     | none=>rw [hb] at h;cases h
     | some r =>
      obtain ⟨t,q2⟩:=r;rw [hb] at h;cases h;exact h4.trans ((Ge f).1 _ _ _ _ (h4.ok hp) hb)
    ·cases h;exact h4
  ·cases h;exact yy hp
structure PS.le (a:PS) (n:Nat):Prop where
 trees:a.trees.length<=n
 globals:a.globals.length<=n
 arrays:a.arrays.length<=n
 fns:a.fns.length=a.trees.length
theorem Zw {f n:Nat} {p q:RS} {st eX:PS} (h:iW f p st=some (q,eX)) (hs:st.le n):eX.le (n+1):=by
 obtain ⟨a,b,c,d⟩:=hs;have key:st.le (n+1):=⟨by omega,by omega,by omega,d⟩;unfold iW at h;split at h
 ·split at h
  ·split at h
   ·cases h;exact ⟨by simp;omega,by simp;omega,by simp;omega,by simp;omega⟩
   ·cases h;exact key
  ·cases h;exact ⟨by simp;omega,by simp;omega,by simp;omega,by simp;omega⟩
 ·split at h
  ·split at h
   ·cases h
   ·split at h
    ·split at h
     ·cases h
     ·cases h;exact ⟨by simp;omega,by simp;omega,by simp;omega,by simp;omega⟩
    ·cases h;exact key
  ·cases h;exact key
end Go.Im
namespace Go.Sp
open Go.Xp
inductive Tz (s:ae):Nat->List Tok->Nat->Prop
 | nil (a:Nat):Tz s a [] a
 | blank {a b:Nat} {c:UInt8} {ts:List Tok} (hc:s[a]?=some c) (hb:eE c=true) (h:Tz s (a+1) ts b):Tz s a ts b
 | tok {a a' b:Nat} {c:UInt8} {t:Tok} {ts:List Tok} (hc:s[a]?=some c) (hb:eE c=false) (hr:bS s a [47,42]=false) (ht:jY s a c=(t,a')) (hk:t.kind=1\/t.kind=2\/t.kind=3) (hn:t.n<=2147483647) (ha:a < a') (h:Tz s a' ts b):Tz s a (t::ts) b
theorem Tz.app {s:ae} {a b c:Nat} {ts us:List Tok} (h:Tz s a ts b) (k:Tz s b us c):Tz s a (ts++us) c:=by
 induction h with
 | nil a=>exact k
 | blank hc hb h ih=>exact .blank hc hb (ih k)
 | tok hc hb hr ht hk hn ha h ih=>exact .tok hc hb hr ht hk hn ha (ih k)
theorem Tz.kinds {s:ae} {a b:Nat} {ts:List Tok} (h:Tz s a ts b):∀ t∈ts,t.kind=1\/t.kind=2\/t.kind=3:=by
 induction h with
 | nil a=>intro t h;cases h
 | blank hc hb h ih=>exact ih
 | tok hc hb hr ht hk hn ha h ih =>
  intro t h
  rcases de h with rfl | h
  ·exact hk
  ·exact ih t h
theorem Tz.len {s:ae} {a b:Nat} {ts:List Tok} (h:Tz s a ts b):a+ts.length<=b:=by
 induction h with
 | nil a=>simp
 | blank hc hb h ih=>omega
 | tok hc hb hr ht hk hn ha h ih=>simp only [length_cons];omega
theorem Qa (s:ae):∀ (f f' a:Nat),a<=s.length->s.length < f+a->s.length < f'+a->skip s f a=skip s f' a:=by
 intro f
 induction f with
 | zero=>intro f' a F I;omega
 | succ f ih =>
  intro f' a F I h3;obtain ⟨f',rfl⟩:∃ g,f'=g+1:=⟨f' - 1,by omega⟩;rw [skip,skip]
  cases hc:s[a]? with
  | none=>rfl
  | some c =>
   simp only;have ak:=(bo hc).1;split
   ·exact ih f' (a+1) aq aq aq
   ·split
    ·rename_i hb;have hb:=kQ hb;have hb:a+2<=s.length:=hb;have h4:=uc s s.length (a+2) hb;have h5:=sW s s.length (a+2) hb aq;split
     ·rfl
     ·rename_i hn
      have h6:bS s (fQ s s.length (a+2)) [42,47]=true:=by
       cases pP:bS s (fQ s s.length (a+2)) [42,47] with
       | true=>rfl
       | false=>exact absurd ⟨by omega,pP⟩ h5
      have h6:=kQ h6;have h6:fQ s s.length (a+2)+2<=s.length:=h6;exact ih f' _ aq aq aq
    ·rfl
theorem Tz.jP {s:ae} {a b:Nat} {ts:List Tok} (h:Tz s a ts b):∀ (f:Nat) (acc:List Tok),rN s (f+ts.length) (skip s (s.length+1) a).1 acc=rN s f (skip s (s.length+1) b).1 (acc++ts):=by
 induction h with
 | nil a=>intro f acc;simp
 | blank hc hb h ih =>
  rename_i a b c ts;intro f acc;have ak:=(bo hc).1;rw [<-ih f acc]
  have:skip s (s.length+1) a=skip s (s.length+1) (a+1):=by
   rw [skip,hc];simp only;rw [ab hb];exact Qa s _ _ _ aq aq aq
  rw [this]
 | tok hc hb hr ht hk hn ha h ih =>
  rename_i a a' b c t ts;intro f acc
  have:skip s (s.length+1) a=(a,-1):=by
   rw [skip,hc];simp only;rw [L (by rw [hb];decide),L (by rw [hr];decide)]
  rw [this,length_cons,<-gn,rN,hc];simp only [ht];rw [ih f (acc++[t]),cS];rfl
theorem Tz.all {s:ae} {ts:List Tok} (h:Tz s 0 ts s.length):Go.Sp.jP s=some ts:=by
 have F:=h.len;have I:=h.jP (s.length+2 - ts.length) [];unfold Go.Sp.jP;rw [show s.length+2 - ts.length+ts.length=s.length+2 by omega] at I;rw [I]
 have h3:skip s (s.length+1) s.length=(s.length,-1):=by rw [skip];simp
 rw [h3];obtain ⟨g,hg⟩:∃ g,s.length+2 - ts.length=g+1:=⟨s.length+1 - ts.length,by omega⟩;rw [hg,rN];simp
theorem om {s r:ae} {a:Nat} {c:UInt8} (h:s.drop a=c::r):s[a]?=some c/\s.drop (a+1)=r/\a < s.length:=by
 have F:s[a]?=some c:=by
  have:=List.getElem?_drop (xs:=s) (i:=a) (j:=0);rw [h] at this;simpa using this.symm
 refine ⟨F,?_,(bo F).1⟩;rw [<-List.tail_drop,h];rfl
theorem Vu (s:ae) (p:UInt8->Bool):∀ (w post:ae) (f a:Nat),s.drop a=w++post->(∀ c∈w,p c=true)->run s p (f+w.length) a=run s p f (a+w.length):=by
 intro w
 induction w with
 | nil=>intro post f a h hp;rfl
 | cons c w ih =>
  intro post f a h hp;obtain ⟨F,I,_⟩:=om h;rw [length_cons,<-gn,run,F];simp only;rw [ab (hp c (mem_cons_self)),ih post f (a+1) I (fun c hc=>hp c (dw _ hc))]
  congr 1;omega
theorem Sq (s:ae) (p:UInt8->Bool) (post:ae) (f a:Nat) (h:s.drop a=post) (hp:∀ c,post.head?=some c->p c=false):run s p f a=a:=by
 cases f with
 | zero=>rfl
 | succ f =>
  rw [run]
  cases post with
  | nil =>
   have:s[a]?=none:=by
    rw [List.getElem?_eq_none_iff];have:=congrArg List.length h;simp at this;omega
   rw [this]
  | cons c r =>
   obtain ⟨F,_,_⟩:=om h;rw [F];simp only;rw [L (by rw [hp c rfl];decide)]
theorem take_drop {s w post:ae} {a:Nat} (h:s.drop a=w++post):(s.take (a+w.length)).drop a=w:=by
 rw [List.drop_take,h,Nat.add_sub_cancel_left,List.take_left]
theorem HI {s w post:ae} {a:Nat} (h:s.drop a=w++post) (ha:a<=s.length):a+w.length+post.length=s.length:=by
 have:=congrArg List.length h;simp only [jv,aO] at this;omega
theorem S4 {s w post:ae} {a:Nat} {c:UInt8} {r:ae} (ha:a<=s.length) (h:s.drop a=w++post) (hw:w=c::r) (hs:small c=true) (aY:∀ c∈w,dR c=true) (hp:∀ c,post.head?=some c->dR c=false) :
  jY s a c=(⟨if words.contains w=true then 3 else 2,0,w,a⟩,a+w.length):=by
 have hl:=HI h ha
 have he:fB s a=a+w.length:=by
  unfold fB;obtain ⟨g,hg⟩:∃ g,s.length+1=g+w.length:=⟨s.length+1 - w.length,by omega⟩;rw [hg,Vu s dR w post g a h aY];refine Sq s dR post g _ ?_ hp;rw [<-List.drop_drop,h,drop_left]
 have hd:eV c=false:=by
  simp only [small,eV,aC] at hs |-;have F:=nW hs.1
  have:¬ ((c.toNat:Int)<=57):=by omega
  simp [this]
 unfold jY;rw [L (by rw [hd];decide),ab hs];unfold gm;rw [he,take_drop h]
def fold (n:Int) (w:ae):Int:=w.foldl (fun n c=>if n<=2147483647 then n * 10+((c.toNat:Int) - 48) else n) n
theorem Mz (s:ae):∀ (w post:ae) (f:Nat) (n:Int) (a:Nat),s.drop a=w++post->(∀ c∈w,eV c=true)->number s (f+w.length) n a=number s f (fold n w) (a+w.length):=by
 intro w
 induction w with
 | nil=>intro post f n a h hp;rfl
 | cons c w ih =>
  intro post f n a h hp;obtain ⟨F,I,_⟩:=om h;rw [length_cons,<-gn,number,F];simp only;rw [ab (hp c (mem_cons_self)),ih post f _ (a+1) I (fun c hc=>hp c (dw _ hc))];rw [show a+1+w.length=a+(w.length+1) by omega];rfl
theorem Jt (s:ae) (post:ae) (f:Nat) (n:Int) (a:Nat) (h:s.drop a=post) (hp:∀ c,post.head?=some c->eV c=false):number s f n a=(n,a):=by
 cases f with
 | zero=>rfl
 | succ f =>
  rw [number]
  cases post with
  | nil =>
   have:s[a]?=none:=by
    rw [List.getElem?_eq_none_iff];have:=congrArg List.length h;simp at this;omega
   rw [this]
  | cons c r =>
   obtain ⟨F,_,_⟩:=om h;rw [F];simp only;rw [L (by rw [hp c rfl];decide)]
theorem NP (k:Nat) (h:k<=9):eV (UInt8.ofNat (48+k))=true/\((UInt8.ofNat (48+k)).toNat:Int)=48+k:=by
 have:(UInt8.ofNat (48+k)).toNat=48+k:=by simp;omega
 refine ⟨?_,by rw [this];omega⟩;simp only [eV,aC,this];exact ⟨decide_eq_true aq,decide_eq_true aq⟩
theorem JR (n:Nat):(∀ c∈dj n,eV c=true)/\(n<=2147483647->fold 0 (dj n)=n)/\dj n≠[]:=by
 induction n using Nat.strongRecOn with
 | _ n ih =>
 unfold dj
 by_cases h:n < 10
 ·rw [dif_pos h];obtain ⟨F,I⟩:=NP n aq;refine ⟨fun c hc=>by rw [mem_singleton] at hc;subst hc;exact F,fun _=>?_,by simp⟩;simp only [fold,foldl_cons,List.foldl_nil];rw [ab aq,I];omega
 ·rw [dif_neg h];obtain ⟨F,I,h3⟩:=ih (n / 10) aq;obtain ⟨h4,h5⟩:=NP (n % 10) aq;refine ⟨fun c hc=>?_,fun hn=>?_,by simp⟩
  ·rcases nA hc with hc | hc
   ·exact F c hc
   ·rw [mem_singleton] at hc;subst hc;exact h4
  ·have:=I aq;unfold fold at this |-;rw [List.foldl_append,this];simp only [foldl_cons,List.foldl_nil];rw [ab aq,h5];omega
theorem Vi {s post:ae} {n a:Nat} {c:UInt8} {r:ae} (ha:a<=s.length) (h:s.drop a=dj n++post) (hw:dj n=c::r) (hn:n<=2147483647) (hp:∀ c,post.head?=some c->eV c=false) :
  jY s a c=(⟨1,n,[],a⟩,a+(dj n).length):=by
 obtain ⟨F,I,h3⟩:=JR n;have hl:=HI h ha;have hd:eV c=true:=F c (by rw [hw];exact mem_cons_self);obtain ⟨g,hg⟩:∃ g,s.length+1=g+(dj n).length:=⟨s.length+1 - (dj n).length,by omega⟩;unfold jY;rw [ab hd,hg,Mz s (dj n) post g 0 a h F,I hn,Jt s post g _ _ (by rw [<-List.drop_drop,h,drop_left]) hp]
theorem v8 {s r t:ae} {a:Nat} (h:s.drop a=r) (ha:a<=s.length):bS s a t=t.isPrefixOf r:=by
 have hl:a+r.length=s.length:=by have:=congrArg List.length h;simp at this;omega
 unfold bS;rw [List.drop_take,h,Nat.add_sub_cancel_left]
 by_cases hp:t <+: r
 ·obtain ⟨z,rfl⟩:=hp;simp only [aO] at hl
  have I:t.isPrefixOf (t++z)=true:=by rw [List.isPrefixOf_iff_prefix];exact ⟨z,rfl⟩
  rw [I,List.take_left];simp only [aC,beq_self_eq_true,and_true,decide_eq_true_eq];omega
 ·have F:t.isPrefixOf r=false:=by
   cases hh:t.isPrefixOf r with
   | false=>rfl
   | true=>exact absurd (List.isPrefixOf_iff_prefix.1 hh) hp
  rw [F]
  have I:(r.take t.length==t)=false:=by
   rw [beq_eq_false_iff_ne];intro h3;exact hp ⟨r.drop t.length,by have:=take_append_drop t.length r;rw [h3] at this;exact this⟩
  rw [I,Bool.and_false]
def Ey:List UInt8:=[32,40,41,91,93,44,59,123,125,10]
def Sep (post:ae):Prop:=∀ c,post.head?=some c->c∈Ey
theorem Sep.dR {post:ae} (h:Sep post):∀ c,post.head?=some c->dR c=false:=by
 intro c hc
 have:∀ c∈Ey,Go.Sp.dR c=false:=by decide
 exact this c (h c hc)
theorem Sep.eV {post:ae} (h:Sep post):∀ c,post.head?=some c->eV c=false:=by
 intro c hc
 have:∀ c∈Ey,Go.Sp.eV c=false:=by decide
 exact this c (h c hc)
theorem Vn {x y z:ae} (h:x.length<=y.length):x.isPrefixOf (y++z)=x.isPrefixOf y:=by
 induction x generalizing y with
 | nil=>simp
 | cons a x ih =>
  cases y with
  | nil=>simp at h
  | cons b y=>simp only [cons_append,List.isPrefixOf];rw [ih (by simpa using h)]
theorem find_congr {α:Type} {p q:α->Bool}:∀ {l:List α},(∀ x∈l,p x=q x)->l.find? p=l.find? q
 | [],_=>rfl
 | a::l,h=>by rw [List.find?_cons,List.find?_cons,h a (mem_cons_self),find_congr (fun x hx=>h x (dw _ hx))]
theorem SA {s w post:ae} {a:Nat} {c:UInt8} {r:ae} (ha:a<=s.length) (h:s.drop a=w++post) (hw:w=c::r) (hm:w∈bZ) (hp:Sep post) :
  jY s a c=(⟨3,0,w,a⟩,a+w.length)/\eE c=false/\bS s a [47,42]=false:=by
 have hd:∀ w∈bZ,∀ c,w.head?=some c->eV c=false/\small c=false/\eE c=false:=by
  have:∀ w∈bZ,(match w.head? with | some c=>!eV c&&!small c&&!eE c | none=>true)=true:=by decide
  intro w hw c hc;have:=this w hw;rw [hc] at this;simp only [aC,Bool.not_eq_true'] at this;exact ⟨this.1.1,this.1.2,this.2⟩
 obtain ⟨F,I,h3⟩:=hd w hm c (by rw [hw];rfl)
 have L6:∀ w∈bZ,w.length<=2/\1<=w.length:=by decide
 have key:∀ w∈bZ,bZ.find? (fun x=>x.isPrefixOf w)=some w/\[47,42].isPrefixOf w=false:=by decide
 have abC:∀ w∈bZ,∀ c∈Ey,bZ.find? (fun x=>x.isPrefixOf (w++[c]))=some w/\[47,42].isPrefixOf (w++[c])=false:=by decide
 have hf:bZ.find? (bS s a)=some w/\bS s a [47,42]=false:=by
  have e1:∀ x,bS s a x=x.isPrefixOf (w++post):=fun x=>v8 h ha
  have e2:bZ.find? (bS s a)=bZ.find? (fun x=>x.isPrefixOf (w++post)):=find_congr fun x _=>e1 x
  rw [e2,e1]
  cases post with
  | nil=>rw [cY];exact key w hm
  | cons c' post =>
   have dY:=hp c' rfl
   have e3:∀ x:ae,x.length<=2->x.isPrefixOf (w++c'::post)=x.isPrefixOf (w++[c']):=fun x hx=>by
    rw [show w++c'::post=(w++[c'])++post by simp];exact Vn (by rw [aO];have:=(L6 w hm).2;simp;omega)
   rw [find_congr fun x hx=>e3 x (L6 x hx).1,e3 _ aw];exact abC w hm c' dY
 refine ⟨?_,h3,hf.2⟩;unfold jY;rw [L (by rw [F];decide),L (by rw [I];decide),hf.1]
theorem Rl {s post:ae} {a:Nat} {c:UInt8} (ha:a<=s.length) (h:s.drop a=c::post) (hm:c∈[40,41,91,93,44,59,123,125]) :
  jY s a c=(⟨3,0,[c],a⟩,a+1)/\eE c=false/\bS s a [47,42]=false:=by
 have hd:∀ c∈([40,41,91,93,44,59,123,125]:List UInt8),eV c=false/\small c=false/\eE c=false/\c≠47:=by decide
 obtain ⟨F,I,h3,h4⟩:=hd c hm
 have e1:∀ x,bS s a x=x.isPrefixOf (c::post):=fun x=>v8 h ha
 have e2:bZ.find? (bS s a)=bZ.find? (fun x=>x.isPrefixOf (c::post)):=find_congr fun x _=>e1 x
 have key:∀ post:ae,∀ c∈([40,41,91,93,44,59,123,125]:List UInt8),bZ.find? (fun x=>x.isPrefixOf (c::post))=some [c]:=by
  intro post c hc;simp only [List.mem_cons,List.not_mem_nil,or_false] at hc
  rcases hc with rfl | rfl | rfl | rfl | rfl | rfl | rfl | rfl <;> rfl
 refine ⟨?_,h3,?_⟩
 ·unfold jY;rw [L (by rw [F];decide),L (by rw [I];decide),e2,key post c hm];rfl
 ·rw [e1];simp only [List.isPrefixOf]
  have:((47:UInt8)==c)=false:=by rw [beq_eq_false_iff_ne];exact fun h=>h4 h.symm
  rw [this,Bool.false_and]
end Go.Sp
namespace Go.Im
open Go.Xp Go.Sp
def nk:List ae:=[[105,110,116],[118,97,114],[102,117,110,99],[105,102],[101,108,115,101],[119,104,105,108,101],[114,101,116,117,114,110],[124,124],[38,38],[61,61],[33,61],[60,61],[62,61],[60,60],[62,62],[40],[41],[123],[125],[91],[93],[44],[59],[61],[60],[62],[43],[45],[42],[47],[37],[38],[124],[94],[33],[126]]
theorem vT:nk=words++bZ:=by decide
def j0 (s:ae):Bool:=nk.contains s
def lu:ae->Int->Int
 | [],n=>n
 | c::r,n=>if n<=2147483647 then lu r (10 * n+((c.toNat:Int) - 48)) else n
def di (s:ae) (a b:Nat):ae:=(s.take b).drop a
def iX (s:ae) (a:Nat) (k:Nat):Bool:=decide (a+k<=s.length)&&(match s[a]? with | some c=>!(small c) | none=>false)&&j0 (di s a (a+k))
def ig (s:ae) (a:Nat):ae:=if iX s a 2=true then di s a (a+2) else if iX s a 1=true then di s a (a+1) else []
def lk (s:ae) (a:Nat):Nat:=run s eV (s.length+1) a
def rL:Tok:=⟨0,0,[],0⟩
def lQ (s:ae) (a:Nat) (c:UInt8):Tok × Nat × Int :=
 if eV c=true then
  if lu (di s a (lk s a)) 0 > 2147483647 then (rL,a,3) else (⟨1,lu (di s a (lk s a)) 0,[],a⟩,lk s a,0)
 else if small c=true then (⟨if j0 (gm s a)=true then 3 else 2,0,gm s a,a⟩,fB s a,0)
 else if ig s a=[] then (rL,a,2)
 else (⟨3,0,ig s a,a⟩,a+(ig s a).length,0)
def ry:ae->Option Nat
 | []=>none
 | b::l=>if List.isPrefixOf [42,47] (b::l) then some 0 else match ry l with | none=>none | some n=>some (n+1)
def oy (s:ae):Nat->Nat->List Tok->Option (List Tok × Int × Int)
 | 0,_,_=>none
 | f+1,a,acc=>match s[a]? with
  | none=>some (acc,0,0)
  | some c =>
   if eE c=true then oy s f (a+1) acc
   else if bS s a [47,42]=true then
    match ry (s.drop (a+2)) with
    | none=>some ([],4,a)
    | some n=>oy s f (a+(n+4)) acc
   else if (lQ s a c).2.2≠0 then some ([],(lQ s a c).2.2,a)
   else oy s f (lQ s a c).2.1 (acc++[(lQ s a c).1])
structure CB (t:Tok):Prop where
 num:t.kind=1->0<=t.n/\t.n<=2147483647/\t.s=[]
 name:t.kind=2->word t.s=true/\j0 t.s=false
 sign:t.kind=3->j0 t.s=true
 kinds:t.kind=1\/t.kind=2\/t.kind=3
theorem mq {s:ae} {a b:Nat} (h:b<=s.length):(di s a b).length=b - a:=by
 unfold di;rw [jv,cX];omega
theorem qI {s:ae} {a b:Nat} {c:UInt8} (h:s[a]?=some c) (hb:a < b) (hl:b<=s.length):di s a b=c::di s (a+1) b:=by
 unfold di;have ak:=(bo h).1
 have:(s.take b)[a]?=some c:=by rw [getElem?_take,ab hb];exact h
 have I:=(bo this);rw [ju I.1,I.2]
theorem Ew (s:ae) (p:UInt8->Bool):∀ (f a:Nat),a<=s.length->∀ c∈di s a (run s p f a),p c=true:=by
 intro f
 induction f with
 | zero =>
  intro a ha c hc;rw [Go.Sp.run] at hc
  have:(di s a a).length=0:=by rw [mq ha];omega
  rw [iC this] at hc;cases hc
 | succ f ih =>
  intro a ha c hc;rw [Go.Sp.run] at hc
  have Hl:∀ x:ae,x=di s a a->c∈x->p c=true:=fun x hx hm=>by
   have:(di s a a).length=0:=by rw [mq ha];omega
   rw [hx,iC this] at hm;cases hm
  cases hq:s[a]? with
  | none=>rw [hq] at hc;exact Hl _ rfl hc
  | some d =>
   rw [hq] at hc;simp only at hc;have ak:=(bo hq).1
   by_cases hp:p d=true
   ·rw [ab hp] at hc
    have mV:a+1<=Go.Sp.run s p f (a+1)/\Go.Sp.run s p f (a+1)<=s.length:=by
     have:∀ (f a:Nat),a<=s.length->a<=Go.Sp.run s p f a/\Go.Sp.run s p f a<=s.length:=by
      intro f
      induction f with
      | zero=>intro a h;exact ⟨aE _,h⟩
      | succ f ih =>
       intro a h;rw [Go.Sp.run]
       cases hq:s[a]? with
       | none=>exact ⟨aE _,h⟩
       | some d =>
        simp only;split
        ·have:=ih (a+1) (bo hq).1;omega
        ·exact ⟨aE _,h⟩
     exact this f (a+1) ak
    rw [qI hq aq mV.2] at hc
    rcases de hc with rfl | hc
    ·exact hp
    ·exact ih (a+1) ak c hc
   ·rw [L hp] at hc;exact Hl _ rfl hc
theorem KP:∀ (w:ae) (n:Int),0<=n->(∀ c∈w,eV c=true)->0<=lu w n
 | [],n,h,_=>h
 | c::r,n,h,hd=>by
  rw [lu];have hc:=hd c (mem_cons_self);simp only [eV,aC,decide_eq_true_eq] at hc;split
  ·exact KP r _ aq (fun c hc=>hd c (dw _ hc))
  ·exact h
theorem RI {x:ae} (h:j0 x=true):x≠[]:=by
 intro h0;subst h0;revert h;decide
theorem Lp {s:ae} {a:Nat} {c:UInt8} (hc:s[a]?=some c) (h0:(lQ s a c).2.2=0):CB (lQ s a c).1/\(lQ s a c).1.at_=a/\a < (lQ s a c).2.1/\(lQ s a c).2.1<=s.length:=by
 have ak:=(bo hc).1;unfold lQ at h0 |-
 by_cases hd:eV c=true
 ·rw [ab hd] at h0 |-
  by_cases hn:lu (di s a (lk s a)) 0 > 2147483647
  ·rw [ab hn] at h0;cases h0
  ·rw [L hn];obtain ⟨e1,e2,e3⟩:=ni s eV (s.length+1) a aq aq
   have A6:a < lk s a:=by
    rcases Nat.lt_or_ge a (lk s a) with h | h
    ·exact h
    ·have he:Go.Sp.run s eV (s.length+1) a=a:=by unfold lk at h;omega
     have:=e1 c (by rw [he];exact hc);rw [hd] at this;cases this
   refine ⟨⟨fun _=>⟨KP _ _ aw (Ew s eV _ a aq),by simpa using hn,rfl⟩,fun h=>by simp at h,fun h=>by simp at h,.inl rfl⟩,rfl,A6,e3⟩
 ·rw [L hd] at h0 |-
  by_cases hs:small c=true
  ·rw [ab hs];obtain ⟨e1,e2,e3⟩:=ni s dR (s.length+1) a aq aq
   have zw:dR c=true:=by simp [dR,hs]
   have A6:a < fB s a:=by
    rcases Nat.lt_or_ge a (fB s a) with h | h
    ·exact h
    ·have he:Go.Sp.run s dR (s.length+1) a=a:=by unfold fB at h;omega
     have:=e1 c (by rw [he];exact hc);rw [zw] at this;cases this
   have hw:word (gm s a)=true:=by
    have F:gm s a=c::di s (a+1) (fB s a):=qI hc A6 e3;have I:=Ew s dR (s.length+1) a aq;unfold word;have h3:(gm s a).all dR=true:=gV.2 I;rw [h3,F];simp [hs]
   refine ⟨⟨fun h=>?_,fun h=>⟨hw,?_⟩,fun h=>?_,?_⟩,rfl,A6,e3⟩
   ·simp only at h;split at h <;> cases h
   ·simp only at h;split at h
    ·cases h
    ·rename_i hh;simpa using hh
   ·simp only at h;split at h
    ·assumption
    ·cases h
   ·simp only;split
    ·exact .inr (.inr rfl)
    ·exact .inr (.inl rfl)
  ·rw [L hs] at h0 |-
   by_cases hg:ig s a=[]
   ·rw [ab hg] at h0;cases h0
   ·rw [L hg]
    have key:j0 (ig s a)=true/\a+(ig s a).length<=s.length:=by
     unfold ig at hg |-
     have aux:∀ k,iX s a k=true->j0 (di s a (a+k))=true/\a+(di s a (a+k)).length<=s.length:=fun k h=>by
      simp only [iX,aC,decide_eq_true_eq] at h;refine ⟨h.2,?_⟩;rw [mq h.1.1];have:=h.1.1;omega
     split
     ·exact aux 2 (by assumption)
     ·rename_i I;rw [L I] at hg;split
      ·exact aux 1 (by assumption)
      ·rename_i F;rw [L F] at hg;exact absurd rfl hg
    have hl:=List.length_pos_iff.2 (RI key.1);exact ⟨⟨fun h=>by simp at h,fun h=>by simp at h,fun _=>key.1,.inr (.inr rfl)⟩,rfl,by simp only;omega,key.2⟩
theorem D9:∀ {l:ae} {n:Nat},ry l=some n->n+2<=l.length
 | [],n,h=>by cases h
 | b::l,n,h=>by
  rw [ry] at h;split at h
  ·rename_i hp;cases h
   cases l with
   | nil=>simp [List.isPrefixOf] at hp
   | cons d l=>simp
  ·cases hq:ry l with
   | none=>rw [hq] at h;cases h
   | some m=>rw [hq] at h;cases h;have:=D9 hq;simp only [length_cons];omega
theorem tC (s:ae):∀ (f a:Nat) (acc:List Tok),a<=s.length->s.length < f+a->(∀ t∈acc,CB t)->(acc.Pairwise fun x y=>x.at_ < y.at_)->(∀ t∈acc,t.at_ < (a:Int))->acc.length<=a ->
  ∃ ts c z,oy s f a acc=some (ts,c,z)/\(∀ t∈ts,CB t)/\(ts.Pairwise fun x y=>x.at_ < y.at_)/\ts.length<=s.length
 | 0,a,acc,F,I,_,_,_,_=>by omega
 | f+1,a,acc,F,I,h3,h4,h5,h6=>by
  rw [oy]
  cases hc:s[a]? with
  | none=>exact ⟨acc,0,0,rfl,h3,h4,by omega⟩
  | some c =>
   simp only;have ak:=(bo hc).1;split
   ·exact tC s f (a+1) acc aq aq h3 h4 (fun t ht=>by have:=h5 t ht;omega) aq
   ·split
    ·rename_i hb;have oF:=kQ hb;simp only [length_cons,length_nil] at oF
     cases hi:ry (s.drop (a+2)) with
     | none=>exact ⟨[],4,a,rfl,fun t h=>by simp at h,.nil,aM _⟩
     | some n =>
      have:=D9 hi;rw [jv] at this;exact tC s f (a+(n+4)) acc aq aq h3 h4 (fun t ht=>by have:=h5 t ht;omega) aq
    ·split
     ·exact ⟨[],_,a,rfl,fun t h=>by simp at h,.nil,aM _⟩
     ·rename_i h0;obtain ⟨k1,k2,k3,k4⟩:=Lp hc (by simpa using h0);refine tC s f _ _ k4 aq (fun t ht=>?_) ?_ (fun t ht=>?_) (by rw [aO];simp only [length_cons,length_nil];omega)
      ·rcases nA ht with h | h
       ·exact h3 t h
       ·rw [mem_singleton] at h;subst h;exact k1
      ·rw [List.pairwise_append];refine ⟨h4,List.pairwise_singleton _ _,fun x hx y hy=>?_⟩;rw [mem_singleton] at hy;subst hy;rw [k2];exact h5 x hx
      ·rcases nA ht with h | h
       ·have:=h5 t h;omega
       ·rw [mem_singleton] at h;subst h;rw [k2];omega
theorem Bm (s:ae):∀ (f:Nat) (n:Int) (a:Nat),a<=s.length->s.length < f+a->lu (di s a (number s f n a).2) n=(number s f n a).1
 | 0,n,a,F,I=>by omega
 | f+1,n,a,F,I=>by
  have Hl:di s a a=[]:=iC (by rw [mq F];omega);rw [number]
  cases hc:s[a]? with
  | none=>simp only;rw [Hl,lu]
  | some c =>
   simp only;have ak:=(bo hc).1
   by_cases hd:eV c=true
   ·rw [ab hd];obtain ⟨e1,e2,e3⟩:=yn s f (if n<=2147483647 then n * 10+((c.toNat:Int) - 48) else n) (a+1) aq aq;rw [qI hc aq e3,lu];have ih:=Bm s f (if n<=2147483647 then n * 10+((c.toNat:Int) - 48) else n) (a+1) aq aq
    by_cases hn:n<=2147483647
    ·rw [ab hn] at ih |-;rw [ab hn,Int.mul_comm 10 n];exact ih
    ·rw [L hn] at ih |-;rw [L hn];rw [<-ih]
     cases hw:di s (a+1) (number s f n (a+1)).2 with
     | nil=>rw [lu]
     | cons d r=>rw [lu,L hn]
   ·rw [L hd];simp only;rw [Hl,lu]
theorem Dm (s:ae):∀ (f:Nat) (n:Int) (a:Nat),(number s f n a).2=Go.Sp.run s eV f a
 | 0,n,a=>rfl
 | f+1,n,a=>by
  rw [number,Go.Sp.run]
  cases hc:s[a]? with
  | none=>rfl
  | some c =>
   simp only;split
   ·exact Dm s f _ (a+1)
   ·rfl
theorem pA {s x:ae} {a:Nat}:bS s a x=(decide (a+x.length<=s.length)&&(di s a (a+x.length)==x)):=rfl
theorem MM {s:ae} {a:Nat} {c:UInt8} (hc:s[a]?=some c) (hs:small c=false):ig s a=(match bZ.find? (bS s a) with | some x=>x | none=>[]):=by
 have ak:=(bo hc).1
 have I:∀ x∈bZ,x.length=1\/x.length=2:=by decide
 have C1:bZ=bZ.take 8++bZ.drop 8:=(take_append_drop 8 bZ).symm
 have kW:∀ x∈bZ.take 8,x.length=2:=by decide
 have gM:∀ x∈bZ.drop 8,x.length=1:=by decide
 have hw:∀ x∈words,∃ d r,x=d::r/\small d=true:=by
  intro x hx
  have:∀ x∈words,(match x with | d::_=>small d | []=>false)=true:=by decide
  have:=this x hx
  cases x with
  | nil=>cases this
  | cons d r=>exact ⟨d,r,rfl,this⟩
 have aa0:∀ k,1<=k->a+k<=s.length->di s a (a+k)=c::di s (a+1) (a+k):=fun k F I=>qI hc aq I
 have dE:∀ k,1<=k->a+k<=s.length->(j0 (di s a (a+k))=true↔di s a (a+k)∈bZ):=fun k F I=>by
  unfold j0;rw [vT,ij,mem_append];refine ⟨fun h=>h.resolve_left fun hm=>?_,.inr⟩;obtain ⟨d,r,e1,e2⟩:=hw _ hm;rw [aa0 k F I] at e1
  cases e1;rw [hs] at e2;cases e2
 have Mc:∀ k,1<=k->(iX s a k=true↔a+k<=s.length/\di s a (a+k)∈bZ):=fun k F=>by
  unfold iX;rw [hc];simp only [hs,Bool.not_false,Bool.and_true,aC,decide_eq_true_eq];exact ⟨fun ⟨p,q⟩=>⟨p,(dE k F p).1 q⟩,fun ⟨p,q⟩=>⟨p,(dE k F p).2 q⟩⟩
 have D7:∀ k,1<=k->k<=2->a+k<=s.length->di s a (a+k)∈bZ->(di s a (a+k)).length=k:=fun k _ _ h _=>by rw [mq h];omega
 unfold ig
 by_cases t2:iX s a 2=true
 ·rw [ab t2];obtain ⟨p,q⟩:=(Mc 2 aw).1 t2
  have hq:di s a (a+2)∈bZ.take 8:=by
   rw [C1] at q
   rcases nA q with h | h
   ·exact h
   ·have:=gM _ h;rw [mq p] at this;omega
  rw [C1,List.find?_append]
  have:(bZ.take 8).find? (bS s a)=some (di s a (a+2)):=by
   cases hf:(bZ.take 8).find? (bS s a) with
   | none =>
    rw [find?_eq_none] at hf;have F:=hf _ hq;rw [pA,mq p,show a+(a+2 - a)=a+2 by omega] at F;simp [p] at F
   | some x =>
    have F:=List.find?_some hf;have h3:=kW x (List.mem_of_find?_eq_some hf);rw [pA,h3] at F;simp only [aC,beq_iff_eq] at F;rw [F.2]
  rw [this];rfl
 ·rw [L t2]
  have abh:(bZ.take 8).find? (bS s a)=none:=by
   rw [find?_eq_none];intro x hx hb;rw [pA,kW x hx] at hb;simp only [aC,beq_iff_eq,decide_eq_true_eq] at hb;exact t2 ((Mc 2 aw).2 ⟨hb.1,by rw [hb.2];exact List.mem_of_mem_take hx⟩)
  rw [C1,List.find?_append,abh]
  by_cases t1:iX s a 1=true
  ·rw [ab t1];obtain ⟨p,q⟩:=(Mc 1 aw).1 t1
   have hq:di s a (a+1)∈bZ.drop 8:=by
    rw [C1] at q
    rcases nA q with h | h
    ·have:=kW _ h;rw [mq p] at this;omega
    ·exact h
   have:(bZ.drop 8).find? (bS s a)=some (di s a (a+1)):=by
    cases hf:(bZ.drop 8).find? (bS s a) with
    | none =>
     rw [find?_eq_none] at hf;have F:=hf _ hq;rw [pA,mq p,show a+(a+1 - a)=a+1 by omega] at F;simp [p] at F
    | some x =>
     have F:=List.find?_some hf;have h3:=gM x (List.mem_of_find?_eq_some hf);rw [pA,h3] at F;simp only [aC,beq_iff_eq] at F;rw [F.2]
   rw [this];rfl
  ·rw [L t1]
   have:(bZ.drop 8).find? (bS s a)=none:=by
    rw [find?_eq_none];intro x hx hb;rw [pA,gM x hx] at hb;simp only [aC,beq_iff_eq,decide_eq_true_eq] at hb;exact t1 ((Mc 1 aw).2 ⟨hb.1,by rw [hb.2];exact List.mem_of_mem_drop hx⟩)
   rw [this];rfl
theorem VU {s:ae} {a a':Nat} {c:UInt8} {t:Tok} (hc:s[a]?=some c) (h:jY s a c=(t,a')) (hk:t.kind=1\/t.kind=2\/t.kind=3) (hn:t.n<=2147483647):lQ s a c=(t,a',0):=by
 have ak:=(bo hc).1;unfold jY at h;unfold lQ
 by_cases hd:eV c=true
 ·rw [ab hd] at h |-;cases h;have e1:lk s a=(number s (s.length+1) 0 a).2:=(Dm s _ 0 a).symm;rw [e1,Bm s _ 0 a aq aq,L (by simpa using hn)]
 ·rw [L hd] at h |-
  by_cases hs:small c=true
  ·rw [ab hs] at h |-;cases h
   have Hw:∃ r,gm s a=c::r\/gm s a=[]:=by
    cases hw:gm s a with
    | nil=>exact ⟨[],.inr rfl⟩
    | cons d r =>
     obtain ⟨e1,e2,e3⟩:=ni s dR (s.length+1) a aq aq
     have zw:dR c=true:=by simp [dR,hs]
     have A6:a < fB s a:=by
      rcases Nat.lt_or_ge a (fB s a) with h | h
      ·exact h
      ·have he:Go.Sp.run s dR (s.length+1) a=a:=by unfold fB at h;omega
       have:=e1 c (by rw [he];exact hc);rw [zw] at this;cases this
     have F:gm s a=c::di s (a+1) (fB s a):=qI hc A6 e3;rw [hw] at F;cases F;exact ⟨_,.inl rfl⟩
   have dE:j0 (gm s a)=words.contains (gm s a):=by
    unfold j0;rw [vT]
    have CY:∀ x∈bZ,(match x with | d::_=>small d | []=>true)=false:=by decide
    obtain ⟨r,F⟩:=Hw
    have:bZ.contains (gm s a)=false:=by
     cases nC:bZ.contains (gm s a) with
     | false=>rfl
     | true =>
      have:=CY _ (ij.1 nC)
      rcases F with F | F <;> rw [F] at this <;> simp only at this
      ·rw [hs] at this;cases this
      ·cases this
    rw [Bool.eq_iff_iff,ij,mem_append,<-ij (as:=bZ),this];simp
   rw [dE]
  ·rw [L hs] at h |-;rw [MM hc (by simpa using hs)]
   cases hf:bZ.find? (bS s a) with
   | none=>rw [hf] at h;cases h;simp at hk
   | some x =>
    rw [hf] at h;cases h;simp only;have hx:=List.mem_of_find?_eq_some hf
    have ct:x≠[]:=by
     intro h0;subst h0;revert hx;decide
    rw [L ct]
theorem Va {s:ae} {a b:Nat} {ts:List Tok} (h:Tz s a ts b):b=s.length->∀ (f:Nat) (acc:List Tok),s.length < f+a->oy s f a acc=some (acc++ts,0,0):=by
 induction h with
 | nil a =>
  intro hb f acc hf
  cases f with
  | zero=>omega
  | succ f =>
   rw [oy];have:s[a]?=none:=List.getElem?_eq_none_iff.2 aq;rw [this];simp
 | blank hc oF h ih =>
  intro hb f acc hf
  cases f with
  | zero=>have:=(bo hc).1;omega
  | succ f =>
   rw [oy,hc];simp only;rw [ab oF];exact ih hb f acc aq
 | tok hc oF hr ht hk hn ha h ih =>
  intro hb f acc hf
  cases f with
  | zero=>have:=(bo hc).1;omega
  | succ f =>
   rw [oy,hc];simp only;rw [L (by rw [oF];decide),L (by rw [hr];decide),VU hc ht hk hn];simp only [ne_eq,not_true_eq_false,if_false];rw [ih hb f _ aq];simp
abbrev th (ts:List Tok):Prop:=∀ t∈ts,CB t
def EF (t:T):Prop:=∃ a:E,a.ok=true/\er t=a.tree
def M9 (l:List T):Prop:=∃ es:List E,E.db es=true/\aV l=E.trees es
def Sf (ts r:List Tok) (n:Nat):Prop:=∃ pre,ts=pre++r/\n<=pre.length
theorem Sf.nil (ts:List Tok):Sf ts ts 0:=⟨[],rfl,aM _⟩
theorem Sf.one (t:Tok) (ts:List Tok):Sf (t::ts) ts 1:=⟨[t],rfl,aE _⟩
theorem Sf.trans {a b c:List Tok} {n m:Nat} (h:Sf a b n) (k:Sf b c m):Sf a c (n+m):=by
 obtain ⟨p,rfl,h⟩:=h;obtain ⟨q,rfl,k⟩:=k;exact ⟨p++q,by simp,by rw [aO];omega⟩
theorem Sf.le {a b:List Tok} {n m:Nat} (h:Sf a b n) (k:m<=n):Sf a b m:=by
 obtain ⟨p,rfl,h⟩:=h;exact ⟨p,rfl,by omega⟩
theorem Sf.ok {a b:List Tok} {n:Nat} (h:Sf a b n) (k:th a):th b:=by
 obtain ⟨p,rfl,h⟩:=h
 exact fun t ht=>k t (List.mem_append_right _ ht)
theorem Sf.aW {e:Int} {s:ae} {ts r:List Tok} (hs:s≠[]) (h:aW e s ts=.ok r):Sf ts r 1:=by
 obtain ⟨u,rfl,_⟩:=yh hs h;exact .one u r
theorem Sf.sign {s:ae} {ts:List Tok} (hs:s≠[]) (h:sign ts 0=s):Sf ts ts.tail 1:=by
 obtain ⟨u,F,_⟩:=vf hs h;rw [F];exact .one u _
theorem Sy {s:ae} (h:j0 s=false):words.contains s=false:=by
 unfold j0 at h;rw [vT] at h
 cases hc:words.contains s with
 | false=>rfl
 | true =>
  rw [ij] at hc
  have:(words++bZ).contains s=true:=by rw [ij];exact List.mem_append_left _ hc
  rw [h] at this;cases this
theorem ZO {t:Tok} (h:CB t) (hk:t.kind=2) (hl:t.s.length<=12):bf t.s=true:=by
 obtain ⟨F,I⟩:=h.name hk;unfold bf;rw [F,Sy I];simpa using hl
theorem Sf.name {e:Int} {s:ae} {ts r:List Tok} (h:name e ts=.ok (s,r)) (ho:th ts):Sf ts r 1/\bf s=true:=by
 obtain ⟨u,rfl,F,rfl,h3⟩:=HU h;exact ⟨.one u r,ZO (ho u mem_cons_self) F h3⟩
theorem Uv {s:ae} {k:Nat} (h:s∈levels.getD k []):eT s=true:=by
 unfold eT;rw [nX];rw [List.getD_eq_getElem?_getD] at h
 cases hk:levels[k]? with
 | none=>rw [hk] at h;simp at h
 | some l =>
  rw [hk] at h;exact ⟨l,bA hk,by rw [ij];exact h⟩
theorem ku (k a:Int) (s:ae) (l:List T):aK (one k a s l)=aB l+1:=by unfold one;rw [aK]
theorem M9.snoc {l:List T} {t:T} (h:M9 l) (k:EF t):M9 (l++[t]):=by
 obtain ⟨es,F,I⟩:=h;obtain ⟨a,h3,h4⟩:=k
 have key:∀ es:List E,E.db es=true->E.db (es++[a])=true/\E.trees (es++[a])=E.trees es++[a.tree]:=by
  intro es
  induction es with
  | nil=>intro _;simp [E.db,E.trees,h3]
  | cons b es ih =>
   intro h;simp only [E.db,aC] at h;obtain ⟨k1,k2⟩:=ih h.2;simp only [cons_append,E.db,E.trees,k1,k2,h.1];simp
 obtain ⟨k1,k2⟩:=key es F;exact ⟨es++[a],k1,by rw [JY,I,k2,aV,aV,h4]⟩
def w7:pY->Nat
 | .loop _ _ out=>aK out
 | _=>0
def jok:pY->Prop
 | .loop _ _ out=>EF out
 | _=>True
theorem Vo (e:Int):∀ f,(∀ j ts t r,th ts->jok j->rd e f j ts=.ok (t,r)->EF t/\∃ n,Sf ts r n/\aK t<=n+w7 j) /\
  (∀ d acc ts l r,th ts->M9 acc->rd.args e f d acc ts=.ok (l,r)->M9 l/\∃ n,Sf ts r n/\aB l+1<=n+aB acc):=by
 intro f
 induction f with
 | zero=>exact ⟨fun j ts t r _ _ h=>by simp [rd] at h,fun d acc ts l r _ _ h=>by simp [rd.args] at h⟩
 | succ f ih =>
  obtain ⟨ih,zD⟩:=ih;refine ⟨fun j ts t r ho hj h=>?_,fun d acc ts l r ho hj h=>?_⟩
  ·cases j with
   | expr d =>
    rw [rd] at h;split at h
    ·cases h
    ·exact ih (.level 0 (d+1)) ts t r ho trivial h
   | level k d =>
    rw [rd] at h;split at h
    ·exact ih (.operand d) ts t r ho trivial h
    ·split at h
     ·cases h
     ·rename_i out jV hx;obtain ⟨F,n,I,h3⟩:=ih (.level (k+1) d) ts out jV ho trivial hx;obtain ⟨k1,m,k2,k3⟩:=ih (.loop k d out) jV t r (I.ok ho) F h;exact ⟨k1,n+m,I.trans k2,by simp only [w7] at *;omega⟩
   | loop k d out =>
    cases ts with
    | nil=>rw [rd] at h;cases h;exact ⟨hj,0,.nil _,by simp only [w7];omega⟩
    | cons t0 r0 =>
     rw [rd] at h;split at h
     ·rename_i hc;split at h
      ·cases h
      ·rename_i b r1 hx;obtain ⟨⟨b',h0,F⟩,n,I,h3⟩:=ih (.level (k+1) d) r0 b r1 (fun t ht=>ho t (dw _ ht)) trivial hx;obtain ⟨o',h4,h5⟩:=hj;have h6:=(Sf.one t0 r0).trans I;obtain ⟨k1,m,k2,k3⟩:=ih (.loop k d (one 6 t0.at_ t0.s [out,b])) r1 t r (h6.ok ho) ⟨.bin t0.s o' b',by simp only [E.ok,Uv hc.2,h4,h0];rfl,by rw [eI,aV,aV,aV,h5,F,E.tree]⟩ h;refine ⟨k1,_,h6.trans k2,?_⟩;simp only [w7,ku,aB] at *;omega
     ·cases h;exact ⟨hj,0,.nil _,by simp only [w7];omega⟩
   | operand d =>
    cases ts with
    | nil =>
     rw [rd] at h;split at h <;> cases h
    | cons t0 r0 =>
     rw [rd] at h;split at h
     ·cases h
     ·have Xv:th r0:=fun t ht=>ho t (dw _ ht)
      have wZ:=Sf.one t0 r0;split at h
      ·split at h
       ·rename_i hu;split at h
        ·cases h
        ·rename_i a r1 hx;cases h;obtain ⟨⟨a',h0,F⟩,n,I,h3⟩:=ih (.operand (d+1)) r0 a r Xv trivial hx;refine ⟨⟨.un t0.s a',?_,by rw [eI,aV,aV,F,E.tree]⟩,_,wZ.trans I,?_⟩
         ·simp only [E.ok,h0]
          rcases hu with hu | hu | hu <;> simp [hu]
         ·simp only [w7,ku,aB] at *;omega
       ·split at h
        ·split at h
         ·cases h
         ·rename_i a r1 hx;split at h
          ·cases h
          ·rename_i r2 hm;cases h;obtain ⟨F,n,I,h3⟩:=ih (.expr (d+1)) r0 t r1 Xv trivial hx;exact ⟨F,_,(wZ.trans I).trans (Sf.aW aw hm),by simp only [w7] at *;omega⟩
        ·cases h
      ·split at h
       ·rename_i hk;cases h;obtain ⟨k1,k2,k3⟩:=(ho t0 mem_cons_self).num hk;exact ⟨⟨.num t0.n,by simp only [E.ok];simp [k1,k2],by rw [er,aV,E.tree]⟩,1,wZ,by simp only [w7,aK,aB];omega⟩
       ·split at h
        ·cases h
        ·rename_i s r1 eK;obtain ⟨k1,k2⟩:=Sf.name eK ho;split at h
         ·rename_i hb;have k3:=k1.trans (Sf.sign aw hb);split at h
          ·cases h
          ·rename_i a r2 hx;split at h
           ·cases h
           ·rename_i r3 hm;cases h;obtain ⟨⟨a',h0,F⟩,n,I,h3⟩:=ih (.expr (d+1)) _ a r2 (k3.ok ho) trivial hx;refine ⟨⟨.at_ s a',by simp only [E.ok,k2,h0];rfl,by rw [eI,aV,aV,F,E.tree]⟩,_,(k3.trans I).trans (Sf.aW aw hm),?_⟩;simp only [w7,ku,aB] at *;omega
         ·split at h
          ·rename_i hb;have k3:=k1.trans (Sf.sign aw hb);split at h
           ·cases h
           ·rename_i l r2 hx;cases h;obtain ⟨⟨es,h0,F⟩,n,I,h3⟩:=zD _ _ _ l r (k3.ok ho) ⟨[],rfl,rfl⟩ hx;refine ⟨⟨.call s es,by simp only [E.ok,k2,h0];rfl,by rw [eI,F,E.tree]⟩,_,k3.trans I,?_⟩;simp only [w7,ku,aB] at *;omega
          ·cases h;exact ⟨⟨.name s,by simp only [E.ok,k2],by rw [eI,aV,E.tree]⟩,1,k1,by simp only [w7,ku,aB];omega⟩
  ·rw [rd.args] at h;split at h
   ·rename_i hc;cases h;exact ⟨hj,1,Sf.sign aw hc,by omega⟩
   ·split at h
    ·cases h
    ·rename_i zY hx
     have h0:Sf ts zY 0:=by
      split at hx
      ·cases hx;exact .nil _
      ·exact (Sf.aW aw hx).le (aM _)
     split at h
     ·cases h
     ·rename_i a xz hy;obtain ⟨F,n,I,h3⟩:=ih (.expr d) zY a xz (h0.ok ho) trivial hy;have h4:=h0.trans I;obtain ⟨k1,m,k2,k3⟩:=zD _ (acc++[a]) xz l r (h4.ok ho) (hj.snoc F) h;refine ⟨k1,_,h4.trans k2,?_⟩;simp only [w7,oq,aB] at *;omega
theorem y9 {e:Int} {d:Nat} {ts r:List Tok} {t:T} (ho:th ts) (h:expr e d ts=.ok (t,r)):EF t/\Sf ts r (aK t):=by
 obtain ⟨F,n,I,h3⟩:=(Vo e _).1 (.expr d) ts t r ho trivial h;exact ⟨F,I.le (by simpa [w7] using h3)⟩
theorem xY {e:Int} {d:Nat} {a b:ae} {ts r:List Tok} {t:T} (ha:a≠[]) (hb:b≠[]) (ho:th ts) (h:inner e d a b ts=.ok (t,r)):EF t/\Sf ts r (aK t+2):=by
 unfold inner at h;split at h
 ·cases h
 ·rename_i zY F;have k1:=Sf.aW ha F;split at h
  ·cases h
  ·rename_i t' xz I;obtain ⟨k2,k3⟩:=y9 (k1.ok ho) I;split at h
   ·cases h
   ·rename_i ts3 h3;cases h;exact ⟨k2,((k1.trans k3).trans (Sf.aW hb h3)).le aq⟩
theorem Dx {e:Int} {d:Nat} {ts r:List Tok} {s:ae} {t:T} (ho:th ts) (h:mj e d ts=.ok ((s,t),r)):bf s=true/\EF t/\Sf ts r (aK t+3):=by
 unfold mj at h;split at h
 ·cases h
 ·rename_i s' zY F;obtain ⟨k1,k2⟩:=Sf.name F ho;split at h
  ·cases h
  ·rename_i t' xz I;cases h;obtain ⟨k3,k4⟩:=xY aw aw (k1.ok ho) I;exact ⟨k2,k3,(k1.trans k4).le aq⟩
def SF (t:T):Prop:=∃ a:S,a.ok=true/\er t=a.tree
def Nq (l:List T):Prop:=∃ es:List S,S.db es=true/\aV l=S.trees es
def BF (t:T):Prop:=∃ l:List S,S.db l=true/\er t=bU l
theorem Nq.snoc {l:List T} {t:T} (h:Nq l) (k:SF t):Nq (l++[t]):=by
 obtain ⟨es,F,I⟩:=h;obtain ⟨a,h3,h4⟩:=k
 have key:∀ es:List S,S.db es=true->S.db (es++[a])=true/\S.trees (es++[a])=S.trees es++[a.tree]:=by
  intro es
  induction es with
  | nil=>intro _;simp [S.db,S.trees,h3]
  | cons b es ih =>
   intro h;simp only [S.db,aC] at h;obtain ⟨k1,k2⟩:=ih h.2;simp only [cons_append,S.db,S.trees,k1,k2,h.1];simp
 obtain ⟨k1,k2⟩:=key es F;exact ⟨es++[a],k1,by rw [JY,I,k2,aV,aV,h4]⟩
theorem Sk {t:T} (h:EF t) (hk:t.n.kind=3):∃ (s:ae) (a:T),t.kids=[a]/\t.n.s=s/\bf s=true/\EF a:=by
 obtain ⟨a,F,I⟩:=h;have h3:=congrArg (fun x=>x.n.kind) I;simp only [y7,hk] at h3
 cases a with
 | at_ s b =>
  simp only [E.ok,aC] at F
  have h4:t.n.s=s:=by have:=congrArg (fun x=>x.n.s) I;simp only [y7] at this;exact this
  have h5:aV t.kids=[b.tree]:=by rw [<-UK,I];rfl
  match hl:t.kids,h5 with
  | [x],h5 =>
   rw [aV,aV] at h5
   injection h5 with h6
   exact ⟨s,x,rfl,h4,F.1,b,F.2,h6⟩
  | [],h5=>rw [aV] at h5;cases h5
  | x::y::r,h5=>rw [aV,aV] at h5;injection h5 with h6 h7;cases h7
 | num n=>simp [E.tree,T.n] at h3
 | name n=>simp [E.tree,T.n] at h3
 | call s l=>simp [E.tree,T.n] at h3
 | un s a=>simp [E.tree,T.n] at h3
 | bin s a b=>simp [E.tree,T.n] at h3
theorem Jx {e:Int} {d:Nat} {ts r:List Tok} {t:T} (ho:th ts) (h:simple e d ts=.ok (t,r)):SF t/\Sf ts r (aK t):=by
 unfold simple at h;split at h
 ·split at h <;> cases h
 ·rename_i t0 r0;split at h
  ·split at h
   ·cases h
   ·rename_i s a zY F;cases h;obtain ⟨k1,⟨a',k2,k3⟩,k4⟩:=Dx ho F;exact ⟨⟨.set s a',by simp only [S.ok,k1,k2];rfl,by rw [eI,aV,aV,k3,S.tree]⟩,k4.le (by simp only [ku,aB];omega)⟩
  ·split at h
   ·cases h
   ·rename_i a zY F;obtain ⟨k1,k2⟩:=y9 ho F;split at h
    ·rename_i hc;split at h
     ·cases h
     ·rename_i v xz I;cases h;obtain ⟨⟨v',k3,k4⟩,k5⟩:=xY aw aw (k2.ok ho) I;obtain ⟨s,x,k6,k7,k8,x',k9,k10⟩:=Sk k1 hc.1;have hz:=fA a;rw [k6] at hz;simp only [aB] at hz;rw [k6];refine ⟨⟨.put s x' v',by simp only [S.ok,k8,k9,k3];rfl,?_⟩,(k2.trans k5).le ?_⟩
      ·rw [eI,k7];simp only [take_succ_cons,take_zero,cons_append,nil_append,aV,k10,k4,S.tree]
      ·simp only [take_succ_cons,take_zero,cons_append,nil_append,ku,aB];omega
    ·split at h
     ·cases h
     ·rename_i xz I;cases h;obtain ⟨a',k3,k4⟩:=k1;exact ⟨⟨.do_ a',by simp only [S.ok,k3],by rw [eI,aV,aV,k4,S.tree]⟩,(k2.trans (Sf.aW aw I)).le (by simp only [ku,aB];omega)⟩
theorem Vs (e:Int):∀ f,(∀ d ts t r,th ts->rs e f (.block d) ts=.ok (t,r)->BF t/\Sf ts r (aK t))/\(∀ d ts t r,th ts->rs e f (.stmt d) ts=.ok (t,r)->SF t/\Sf ts r (aK t)) /\
  (∀ d acc ts l r,th ts->Nq acc->rs.body e f d acc ts=.ok (l,r)->Nq l/\∃ n,Sf ts r n/\aB l+1<=n+aB acc):=by
 intro f
 induction f with
 | zero=>exact ⟨fun d ts t r _ h=>by simp [rs] at h,fun d ts t r _ h=>by simp [rs] at h,fun d acc ts l r _ _ h=>by simp [rs.body] at h⟩
 | succ f ih =>
  obtain ⟨ihb,ihs,ihl⟩:=ih;refine ⟨fun d ts t r ho h=>?_,fun d ts t r ho h=>?_,fun d acc ts l r ho hj h=>?_⟩
  ·rw [rs] at h;split at h
   ·cases h
   ·split at h
    ·cases h
    ·rename_i r1 F;have k1:=Sf.aW aw F;split at h
     ·cases h
     ·rename_i l r2 I;cases h;obtain ⟨⟨es,k2,k3⟩,n,k4,k5⟩:=ihl _ [] r1 l r (k1.ok ho) ⟨[],rfl,rfl⟩ I;exact ⟨⟨es,k2,by rw [eI,k3,bU]⟩,(k1.trans k4).le (by simp only [ku,aB] at *;omega)⟩
  ·rw [rs] at h;split at h
   ·cases h
   ·simp only at h;split at h
    ·rename_i hs;have k0:=Sf.sign aw hs;split at h
     ·cases h
     ·rename_i s a zY F;cases h;obtain ⟨k1,⟨a',k2,k3⟩,k4⟩:=Dx (k0.ok ho) F;exact ⟨⟨.var s a',by simp only [S.ok,k1,k2];rfl,by rw [eI,aV,aV,k3,S.tree]⟩,(k0.trans k4).le (by simp only [ku,aB];omega)⟩
    ·split at h
     ·rename_i hs
      have k0:Sf ts ts.tail 1:=by
       rcases hs with hs | hs
       ·exact Sf.sign aw hs
       ·exact Sf.sign aw hs
      split at h
      ·cases h
      ·rename_i c r1 F;obtain ⟨⟨c',k1,k2⟩,k3⟩:=xY aw aw (k0.ok ho) F;have k4:=k0.trans k3;split at h
       ·cases h
       ·rename_i b r2 I;obtain ⟨⟨lb,k5,k6⟩,k7⟩:=ihb _ _ b r2 (k4.ok ho) I;have k8:=k4.trans k7;split at h
        ·split at h
         ·rename_i eB;have k9:=k8.trans (Sf.sign aw eB);split at h
          ·cases h
          ·rename_i b2 r3 h3;cases h;obtain ⟨⟨lb2,j5,j6⟩,j7⟩:=ihb _ _ b2 r (k9.ok ho) h3;refine ⟨⟨.if2 c' lb lb2,by simp only [S.ok,k1,k5,j5];rfl,?_⟩,(k9.trans j7).le (by simp only [ku,aB];omega)⟩;rw [eI,aV,aV,aV,aV,k2,k6,j6,S.tree,bU,bU]
         ·cases h;refine ⟨⟨.if1 c' lb,by simp only [S.ok,k1,k5];rfl,?_⟩,k8.le (by simp only [ku,aB];omega)⟩;rw [eI,aV,aV,aV,k2,k6,S.tree,bU]
        ·cases h;refine ⟨⟨.while_ c' lb,by simp only [S.ok,k1,k5];rfl,?_⟩,k8.le (by simp only [ku,aB];omega)⟩;rw [eI,aV,aV,aV,k2,k6,S.tree,bU]
     ·split at h
      ·rename_i hs;have k0:=Sf.sign aw hs;split at h
       ·cases h
       ·rename_i a zY F;obtain ⟨⟨a',k1,k2⟩,k3⟩:=y9 (k0.ok ho) F;split at h
        ·cases h
        ·rename_i xz I;cases h;exact ⟨⟨.ret a',by simp only [S.ok,k1],by rw [eI,aV,aV,k2,S.tree]⟩,((k0.trans k3).trans (Sf.aW aw I)).le (by simp only [ku,aB];omega)⟩
      ·exact Jx ho h
  ·rw [rs.body] at h;split at h
   ·rename_i hc;cases h;exact ⟨hj,1,Sf.sign aw hc,by omega⟩
   ·split at h
    ·cases h
    ·rename_i a zY F;obtain ⟨k1,k2⟩:=ihs _ ts a zY ho F;obtain ⟨k3,m,k4,k5⟩:=ihl _ (acc++[a]) zY l r (k2.ok ho) (hj.snoc k1) h;refine ⟨k3,_,k2.trans k4,?_⟩;simp only [oq,aB] at *;omega
theorem LJ {e:Int} {d:Nat} {ts r:List Tok} {t:T} (ho:th ts) (h:block e d ts=.ok (t,r)):BF t/\Sf ts r (aK t):=(Vs e _).1 _ ts t r ho h
end Go.Im
namespace Go.Sp
open Go.Xp
def fc (x:ae) (l:List K):Prop:=∀ pre post:ae,∃ ts,ts.map kf=l/\Tz (pre++(x++post)) pre.length ts (pre.length+x.length)
def jb (x:ae) (l:List K):Prop:=∀ pre post:ae,Sep post->∃ ts,ts.map kf=l/\Tz (pre++(x++post)) pre.length ts (pre.length+x.length)
theorem fc.s {x:ae} {l:List K} (h:fc x l):jb x l:=fun pre post _=>h pre post
theorem fc.app {x y:ae} {l m:List K} (h:fc x l) (k:fc y m):fc (x++y) (l++m):=by
 intro pre post;obtain ⟨ts,F,I⟩:=h pre (y++post);obtain ⟨us,h3,h4⟩:=k (pre++x) post;refine ⟨ts++us,by simp [F,h3],?_⟩;rw [cS] at h4 |-;rw [aO] at h4 |-;rw [<-gn];exact I.app h4
theorem fc.apps {x y:ae} {l m:List K} (h:fc x l) (k:jb y m):jb (x++y) (l++m):=by
 intro pre post hp;obtain ⟨ts,F,I⟩:=h pre (y++post);obtain ⟨us,h3,h4⟩:=k (pre++x) post hp;refine ⟨ts++us,by simp [F,h3],?_⟩;rw [cS] at h4 |-;rw [aO] at h4 |-;rw [<-gn];exact I.app h4
theorem jb.Gs {x y:ae} {l m:List K} (h:jb x l) (k:fc y m) (hs:∀ post,Sep (y++post)):fc (x++y) (l++m):=by
 intro pre post;obtain ⟨ts,F,I⟩:=h pre (y++post) (hs post);obtain ⟨us,h3,h4⟩:=k (pre++x) post;refine ⟨ts++us,by simp [F,h3],?_⟩;rw [cS] at h4 |-;rw [aO] at h4 |-;rw [<-gn];exact I.app h4
theorem fc.nil:fc [] []:=fun pre post=>⟨[],rfl,.nil _⟩
theorem zU {c:UInt8} {x:ae} (h:c∈Ey):∀ post,Sep (c::x++post):=fun post d hd=>by cases hd;exact h
theorem uK {pre x:ae}:(pre++x).drop pre.length=x:=drop_left
theorem Tz.one {s:ae} {a a':Nat} {c:UInt8} {t:Tok} (hc:s[a]?=some c) (hb:eE c=false) (hr:bS s a [47,42]=false) (ht:jY s a c=(t,a')) (hk:t.kind=1\/t.kind=2\/t.kind=3) (hn:t.n<=2147483647) (ha:a < a'):Tz s a [t] a' :=
 .tok hc hb hr ht hk hn ha (.nil _)
theorem zI {c:UInt8} (h:eE c=true):fc [c] []:=by
 intro pre post;have hd:(pre++([c]++post)).drop pre.length=c::post:=uK;obtain ⟨F,_,_⟩:=om hd;exact ⟨[],rfl,.blank F h (.nil _)⟩
theorem nL {c:UInt8} (hm:c∈[40,41,91,93,44,59,123,125]):fc [c] [kS [c]]:=by
 intro pre post;have hd:(pre++([c]++post)).drop pre.length=c::post:=uK;obtain ⟨F,_,h4⟩:=om hd;obtain ⟨I,h3,h5⟩:=Rl (Nat.le_of_lt h4) hd hm;exact ⟨[_],rfl,Tz.one F h3 h5 I (by simp) (by simp) (by simp)⟩
theorem B4 {w:ae} (hm:w∈bZ):jb w [kS w]:=by
 intro pre post hp;have hd:(pre++(w++post)).drop pre.length=w++post:=uK
 have ct:w≠[]:=by rintro rfl;revert hm;decide
 obtain ⟨c,r,hw⟩:=List.exists_cons_of_ne_nil ct;have dZ:=hd;rw [hw,cons_append] at dZ;obtain ⟨F,_,h4⟩:=om dZ;rw [<-cons_append,<-hw] at F h4;obtain ⟨I,h3,h5⟩:=SA (Nat.le_of_lt h4) hd hw hm hp
 have:0 < w.length:=by rw [hw];simp
 exact ⟨[_],rfl,Tz.one F h3 h5 I (by simp) (by simp) aq⟩
theorem Jy {c:UInt8} (h:small c=true):eE c=false/\c≠47:=by
 simp only [small,aC] at h;have F:=nW h.1;refine ⟨?_,fun h0=>?_⟩
 ·simp only [eE,Bool.or_eq_false_iff,beq_eq_false_iff_ne];omega
 ·subst h0;revert F;decide
theorem Fy {s r:ae} {a:Nat} {c:UInt8} (h:s.drop a=c::r) (hc:c≠47):bS s a [47,42]=false:=by
 obtain ⟨_,_,h4⟩:=om h;rw [v8 h (Nat.le_of_lt h4)];simp only [List.isPrefixOf]
 have:((47:UInt8)==c)=false:=by rw [beq_eq_false_iff_ne];exact fun h=>hc h.symm
 rw [this,Bool.false_and]
theorem HK {w:ae} (hw:word w=true):jb w [if words.contains w then kS w else kN w]:=by
 intro pre post hp;have hd:(pre++(w++post)).drop pre.length=w++post:=uK;simp only [word,aC,gV] at hw
 match w,hw,hd with
 | [],hw,_=>simp at hw
 | c::r,hw,hd =>
  obtain ⟨aY,hs⟩:=hw;have dZ:=hd;rw [cons_append] at dZ;obtain ⟨F,_,h4⟩:=om dZ;obtain ⟨h3,h5⟩:=Jy hs;have ht:=S4 (Nat.le_of_lt h4) hd rfl hs aY hp.dR;refine ⟨[_],?_,Tz.one F h3 (Fy dZ h5) ht ?_ (by simp) (by simp)⟩
  ·simp only [List.map_cons,List.map_nil,kf,kS,kN];split <;> rfl
  ·simp only;split <;> simp
theorem lr {w:ae} (hw:bf w=true):jb w [kN w]:=by
 simp only [bf,aC,Bool.not_eq_true'] at hw;have:=HK hw.1.1;rw [L (by rw [hw.2];decide)] at this;exact this
theorem PB {w:ae} (hw:w∈words):jb w [kS w]:=by
 have F:∀ w∈words,word w=true:=by decide
 have:=HK (F w hw);rw [ab (by simpa using hw)] at this;exact this
theorem KH {n:Nat} (hn:n<=2147483647):jb (dj n) [kI n]:=by
 intro pre post hp;have hd:(pre++(dj n++post)).drop pre.length=dj n++post:=uK;obtain ⟨F,I,h3⟩:=JR n;obtain ⟨c,r,hw⟩:=List.exists_cons_of_ne_nil h3;have dZ:=hd;rw [hw,cons_append] at dZ;obtain ⟨h4,_,h5⟩:=om dZ;rw [<-cons_append,<-hw] at h4 h5;have hc:eV c=true:=F c (by rw [hw];exact mem_cons_self)
 have Fe:eE c=false/\c≠47:=by
  simp only [eV,aC] at hc;have F:=nW hc.1;refine ⟨?_,fun h0=>?_⟩
  ·simp only [eE,Bool.or_eq_false_iff,beq_eq_false_iff_ne];omega
  ·subst h0;revert F;decide
 have ht:=Vi (Nat.le_of_lt h5) hd hw hn hp.eV
 have:0 < (dj n).length:=by rw [hw];simp
 refine ⟨[_],rfl,Tz.one h4 Fe.1 ?_ ht (by simp) (by simpa using by omega) aq⟩;have CP:=dZ;rw [<-cons_append,<-hw] at CP;rw [hw] at CP |-;exact Fy CP Fe.2
theorem X8 {s:ae} (h:eT s=true):s∈bZ:=by
 have hm:s∈levels.flatten:=by
  unfold eT at h;rw [nX] at h;obtain ⟨l,hl,hc⟩:=h;exact List.mem_flatten.2 ⟨l,hl,by simpa using hc⟩
 have key:∀ s∈levels.flatten,s∈bZ:=by decide
 exact key s hm
theorem MO:fc [32] []:=zI aw
theorem jb.then {x:ae} {l:List K} (h:jb x l) {c:UInt8} (hm:c∈[40,41,91,93,44,59,123,125]):fc (x++[c]) (l++[kS [c]]) :=
 h.Gs (nL hm) (zU (by revert hm;unfold Ey;simp only [List.mem_cons,List.not_mem_nil,or_false];rintro (h | h | h | h | h | h | h | h) <;> simp [h]))
theorem jb.sp {x:ae} {l:List K} (h:jb x l):fc (x++[32]) l:=by
 have:=h.Gs MO (zU aw);rw [cY] at this;exact this
theorem jb.eq {x:ae} {l l':List K} (h:jb x l) (e:l=l'):jb x l':=e ▸ h
theorem fc.eq {x:ae} {l l':List K} (h:fc x l) (e:l=l'):fc x l':=e ▸ h
theorem Ef {lv k:Nat} {x:ae} {l:List K} (h:jb x l):jb (rV lv k x) (brk lv k l):=by
 unfold rV brk;split
 ·have:=((nL (c:=40) aw).apps h).then (c:=41) aw;exact this.s.eq (by simp)
 ·exact h
mutual
theorem qD:∀ a:E,a.ok=true->jb a.bF a.tk
 | .num n,h=>by
  simp only [E.ok,aC] at h;have F:=nW h.1;have I:=nW h.2;have:=KH (n:=n.toNat) aq;rw [E.bF,E.tk];rw [Int.toNat_of_nonneg F] at this;exact this
 | .name s,h=>by rw [E.bF,E.tk];exact lr h
 | .at_ s a,h=>by
  simp only [E.ok,aC] at h;rw [E.bF,E.tk];exact ((((lr h.1).then (c:=91) aw).apps (qD a h.2)).then (c:=93) aw).s.eq (by simp)
 | .call s l,h=>by
  simp only [E.ok,aC] at h;rw [E.bF,E.tk];exact ((((lr h.1).then (c:=40) aw).apps (ZF l h.2)).then (c:=41) aw).s.eq (by simp)
 | .un s a,h=>by
  simp only [E.ok,aC,Bool.or_eq_true,beq_iff_eq] at h;rw [E.bF,E.tk]
  have hs:s∈bZ:=by rcases h.1 with (h | h) | h <;> (rw [h];decide)
  exact ((B4 hs).sp.apps (Ef (qD a h.2))).eq (by simp)
 | .bin s a b,h=>by
  simp only [E.ok,aC] at h;rw [E.bF,E.tk];exact ((((Ef (qD a h.1.2)).sp.apps (B4 (X8 h.1.1))).sp).apps (Ef (qD b h.2))).eq (by simp)
theorem ZF:∀ l:List E,E.db l=true->jb (bX (E.dv l)) (E.oh l)
 | [],_=>fc.nil.s
 | a::l,h=>by
  simp only [E.db,aC] at h;rw [E.dv,E.oh,bX];exact TY l h.2 _ _ (qD a h.1)
theorem TY:∀ l:List E,E.db l=true->∀ x m,jb x m->jb (x++(E.dv l).flatMap fun y=>44::32::y) (m++E.rK l)
 | [],_,x,m,hx=>by rw [E.dv,E.rK];simpa using hx
 | a::l,h,x,m,hx=>by
  simp only [E.db,aC] at h;have F:=((hx.then (c:=44) aw).app MO).apps (qD a h.1);have I:=TY l h.2 _ _ F;rw [E.dv,E.rK,flatMap_cons]
  have e1:x++((44::32::a.bF)++(E.dv l).flatMap fun y=>44::32::y)=(x++[44]++[32]++a.bF)++(E.dv l).flatMap fun y=>44::32::y:=by simp
  rw [e1];exact I.eq (by simp)
end
theorem jb.set {x:ae} {l:List K} (h:jb x l):fc (x++[32,61,32]) (l++[kS [61]]):=by
 have:=(h.sp.apps (B4 (w:=[61]) aw)).sp;simpa using this
theorem vJ {w:ae} (hw:w∈words):fc (w++[32]) [kS w]:=(PB hw).sp
mutual
theorem ZG:∀ s:S,s.ok=true->fc (s.bF E.bF) s.tk
 | .set s a,h=>by
  simp only [S.ok,aC] at h;rw [S.bF,S.tk];exact (((lr h.1).set.apps (qD a h.2)).then (c:=59) aw).eq (by simp)
 | .put s a b,h=>by
  simp only [S.ok,aC] at h;rw [S.bF,S.tk];have F:=((((lr h.1).then (c:=91) aw).apps (qD a h.2.1)).then (c:=93) aw).s.set;have I:=(F.apps (qD b h.2.2)).then (c:=59) aw
  have e:s++[91]++a.bF++[93,32,61,32]++b.bF++[59]=s++[91]++a.bF++[93]++[32,61,32]++b.bF++[59]:=by simp
  rw [e];exact I.eq (by simp)
 | .if1 c b,h=>by
  simp only [S.ok,aC] at h;rw [S.bF,S.tk];have F:=((((vJ (w:=[105,102]) aw).app (nL (c:=40) aw)).apps (qD c h.1)).then (c:=41) aw).s.sp;have I:=F.app (lexB b h.2)
  have e:[105,102,32,40]++c.bF++[41,32]++(S.dv E.bF [123,32] b++[125])=[105,102]++[32]++[40]++c.bF++[41]++[32]++(S.dv E.bF [123,32] b++[125]):=by simp
  rw [e];exact I.eq (by simp [eP])
 | .if2 c b b2,h=>by
  simp only [S.ok,aC] at h;rw [S.bF,S.tk];have F:=((((vJ (w:=[105,102]) aw).app (nL (c:=40) aw)).apps (qD c h.1)).then (c:=41) aw).s.sp;have I:=F.app (lexB b h.2.1);have h3:=((I.s.sp.apps (PB (w:=[101,108,115,101]) aw)).sp).app (lexB b2 h.2.2)
  have e:[105,102,32,40]++c.bF++[41,32]++(S.dv E.bF [123,32] b++[125])++[32,101,108,115,101,32]++(S.dv E.bF [123,32] b2++[125])=[105,102]++[32]++[40]++c.bF++[41]++[32]++(S.dv E.bF [123,32] b++[125])++[32]++[101,108,115,101]++[32]++(S.dv E.bF [123,32] b2++[125]):=by simp
  rw [e];exact h3.eq (by simp [eP,fi])
 | .while_ c b,h=>by
  simp only [S.ok,aC] at h;rw [S.bF,S.tk];have F:=((((vJ (w:=[119,104,105,108,101]) aw).app (nL (c:=40) aw)).apps (qD c h.1)).then (c:=41) aw).s.sp;have I:=F.app (lexB b h.2)
  have e:[119,104,105,108,101,32,40]++c.bF++[41,32]++(S.dv E.bF [123,32] b++[125])=[119,104,105,108,101]++[32]++[40]++c.bF++[41]++[32]++(S.dv E.bF [123,32] b++[125]):=by simp
  rw [e];exact I.eq (by simp [en])
 | .ret a,h=>by
  simp only [S.ok] at h;rw [S.bF,S.tk];have F:=((vJ (w:=[114,101,116,117,114,110]) aw).apps (qD a h)).then (c:=59) aw;exact F.eq (by simp [dV])
 | .do_ a,h=>by
  simp only [S.ok] at h;rw [S.bF,S.tk];exact (qD a h).then (c:=59) aw
 | .var s a,h=>by
  simp only [S.ok,aC] at h;rw [S.bF,S.tk];have F:=((((vJ (w:=[118,97,114]) aw).apps (lr h.1)).set).apps (qD a h.2)).then (c:=59) aw;exact F.eq (by simp [ja])
theorem lexB:∀ l:List S,S.db l=true->fc (S.dv E.bF [123,32] l++[125]) (kS [123]::(S.oh l++[kS [125]]))
 | l,h=>by
  have h0:fc [123,32] [kS [123]]:=by
   have:=(nL (c:=123) aw).s.sp;simpa using this
  exact ((TZ l h _ _ h0).s.then (c:=125) aw).eq (by simp)
theorem TZ:∀ l:List S,S.db l=true->∀ acc m,fc acc m->fc (S.dv E.bF acc l) (m++S.oh l)
 | [],_,acc,m,h=>by rw [S.dv,S.oh,cY];exact h
 | a::l,ho,acc,m,h=>by
  simp only [S.db,aC] at ho;rw [S.dv,S.oh];have F:=(h.app (ZG a ho.1)).s.sp;exact (TZ l ho.2 _ _ F).eq (by simp)
end
theorem fc.all {x:ae} {l:List K} (h:fc x l):∃ ts,ts.map kf=l/\Tz x 0 ts x.length:=by
 obtain ⟨ts,F,I⟩:=h [] [];exact ⟨ts,F,by simpa using I⟩
theorem KE {l:List S} (h:S.db l=true):fc (gg E.bF l) (LI l):=lexB l h
end Go.Sp
namespace Go.Im
open Go.Xp Go.Sp
def Oo (s:ae):List K:=[kS mK,kN s,kS [59]]
def JF (a:Ar):List K:=[kS mK,kN a.name,kS [91],kI a.size,kS [93],kS [59]]
def wq:List ae->List K
 | []=>[]
 | s::r=>kS [44]::kN s::wq r
def H6:List ae->List K
 | []=>[]
 | s::r=>kN s::wq r
def J2 (x:Fn × List S):List K:=kS od::kN x.1.name::kS [40]::(H6 x.1.params++kS [41]::LI x.2)
def kC (x:Fn × List S):ae:=((((([102,117,110,99,32]++x.1.name)++[40])++bX x.1.params)++[41,32])++gg E.bF x.2)++[10]
theorem KG:fc [59,10] [kS [59]]:=(nL (c:=59) aw).app (zI (c:=10) aw)
theorem ZJ {s:ae} (h:bf s=true):fc (g1 s) (Oo s) :=
 ((vJ (w:=mK) aw).apps (lr h)).Gs KG (zU (c:=59) (x:=[10]) aw)
theorem ZH {a:Ar} (h:oP a=true):fc (a1 a) (JF a):=by
 unfold oP at h;simp only [aC,Bool.not_eq_true',decide_eq_false_iff_not] at h;obtain ⟨⟨F,I⟩,h3⟩:=h
 have hz:pF a.size=dj a.size.toNat:=by unfold pF;rw [L I]
 have hk:kI a.size=kI ((a.size.toNat:Nat):Int):=by rw [Int.toNat_of_nonneg aq]
 have x1:=((vJ (w:=mK) aw).apps (lr F)).then (c:=91) aw;have x2:=x1.apps (KH (n:=a.size.toNat) aq);have x3:=x2.Gs ((nL (c:=93) aw).app KG) (zU (c:=93) (x:=[59,10]) aw);unfold a1 JF;rw [hz,hk];exact x3
theorem PC:∀ (ps:List ae),c8 ps=true->∀ x m,jb x m->jb (x++ps.flatMap fun y=>44::32::y) (m++wq ps)
 | [],_,x,m,h=>by rw [List.flatMap_nil,cY,wq,cY];exact h
 | s::r,hp,x,m,h=>by
  unfold c8 at hp;rw [all_cons,aC] at hp;have F:=(h.then (c:=44) aw).app MO;have I:=F.apps (lr hp.1);have h3:=PC r hp.2 _ _ I;rw [flatMap_cons,wq];refine jb.eq (cast (congrArg (fun z=>jb z _) ?_) h3) ?_
  ·simp
  ·simp
theorem ZK {ps:List ae} (h:c8 ps=true):jb (bX ps) (H6 ps):=by
 match ps,h with
 | [],_=>exact fc.nil.s
 | s::r,h =>
  unfold c8 at h;rw [all_cons,aC] at h;exact PC r h.2 s [kN s] (lr h.1)
theorem ZI {x:Fn × List S} (F:bf x.1.name=true) (I:c8 x.1.params=true) (h3:S.db x.2=true):fc (kC x) (J2 x):=by
 have x1:=((vJ (w:=od) aw).apps (lr F)).then (c:=40) aw;have x2:=(x1.apps (ZK I)).Gs ((nL (c:=41) aw).app MO) (zU (c:=41) (x:=[32]) aw);have x3:=(x2.app (KE h3)).app (zI (c:=10) aw);refine fc.eq x3 ?_;simp [J2]
theorem Au {α:Type} {f:α->ae} {k:α->List K}:∀ (l:List α),(∀ x∈l,fc (f x) (k x))->∀ acc m,fc acc m->fc (dW f acc l) (m++l.flatMap k)
 | [],_,acc,m,h=>by rw [dW,List.flatMap_nil,cY];exact h
 | x::l,hl,acc,m,h=>by
  rw [dW,flatMap_cons,<-cS];exact Au l (fun y hy=>hl y (dw _ hy)) _ _ (h.app (hl x mem_cons_self))
theorem NG {inl:List ae->Nat->ae}:∀ (fns:List Fn) (l:List T) (ls:List (List S)) (acc:ae),ls.length=l.length->(∀ (i:Nat) t b,l[i]?=some t->ls[i]?=some b->oC dB inl 0 t=gg E.bF b) ->
  dW (cy dB inl) acc (fns.zip l)=dW kC acc (fns.zip ls)
 | [],l,ls,acc,_,_=>by simp [dW]
 | f::r,[],[],acc,_,_=>by simp [dW]
 | f::r,t::l,b::ls,acc,hl,h=>by
  have h0:=h 0 t b rfl rfl;rw [zip_cons_cons,zip_cons_cons,dW,dW,NG r l ls _ (by simpa using hl) fun i t' b' F I=>h (i+1) t' b' (by simpa using F) (by simpa using I)];simp only [cy,kC,h0]
 | f::r,[],b::ls,acc,hl,_=>by simp at hl
 | f::r,t::l,[],acc,hl,_=>by simp at hl
section
variable {p q:RS} {ts r rest:List Tok} {u:Tok} {s:ae}
theorem rM (h:On p (u::r)):tok p 0=u:=by rw [On.tok h];rfl
theorem B0 (h:On p (u::r)) (hk:kf u=kS s):is p 0 s=true:=by
 obtain ⟨F,I⟩:=eY hk;unfold is;rw [rM h,F,I];simp
theorem Mf (h:On p (u::r)) {k:K} (hk:kf u=k) (hn:k.1=3->k.2.2≠s):is p 0 s=false:=by
 unfold is;rw [rM h];subst hk
 by_cases h3:u.kind=3
 ·have:=hn h3;simp only [kf] at this;simp [h3,this]
 ·simp [h3]
theorem vj (h:On p (u::r)) (hk:kf u=kS s):want p s=p.next:=by unfold want;rw [ab h.code,ab (B0 h hk)]
theorem zN (h:On p (u::r)) (hk:kf u=kN s) (hl:bf s=true):bL p=p.next:=by
 obtain ⟨F,I⟩:=rz hk;have:=nM hl;unfold bL;rw [ab h.code,rM h,ab F,L (by rw [I];omega)]
theorem nx (h:On p (u::r)):On p.next r:=h.next.1
theorem fp (h:On p (u::r)):p.next.l=p.l/\p.next.e=p.e:=⟨h.next.2.1,h.next.2.2⟩
theorem abH (h:On p (u::r)):p.i < p.l.length:=by
 have:=congrArg List.length h.rest;rw [jv,length_cons] at this;omega
theorem Yb (h:On p []):¬ p.i < p.l.length:=by
 have:=congrArg List.length h.rest;rw [jv,length_nil] at this;omega
theorem Kw {acB f:Nat} {st:PS} (h:p.code≠0) (hg:1<=acB):oH acB f p st=some (p,st):=by
 obtain ⟨acB,rfl⟩:∃ g',acB=g'+1:=⟨acB - 1,by omega⟩;rw [oH,L (fun hc=>h hc.1)]
theorem Aq {f:Nat} {acc:List ae} (h:p.code≠0) (hg:1<=f):qk f acc p=some (acc,p):=by
 obtain ⟨f,rfl⟩:∃ g',f=g'+1:=⟨f - 1,by omega⟩;rw [qk,L (fun hc=>h hc.1),hY h]
end
theorem abB {f:Nat} {p:RS} {st:PS} {ts rest:List Tok} {s:ae} (hp:On p (ts++rest)) (ht:ts.map kf=Oo s) (hs:bf s=true) :
  ∃ q,iW f p st=some (q,{ st with globals:=st.globals++[s] })/\b7 p q (.ok rest):=by
 obtain ⟨u,r,rfl,F,ht⟩:=map_cons ht;obtain ⟨v,r,rfl,I,ht⟩:=map_cons ht;obtain ⟨w,rfl,h3⟩:=jx ht;simp only [cons_append,nil_append] at hp;have p1:=nx hp;have p2:=nx p1;have p3:=nx p2;refine ⟨p.next.next.next,?_,p3,by rw [(fp p2).1,(fp p1).1,(fp hp).1],by rw [(fp p2).2,(fp p1).2,(fp hp).2]⟩;unfold iW;rw [ab (B0 hp F),zN p1 I hs,Mf p2 h3 aw,L (by rintro ⟨_,h⟩;cases h),vj p2 h3,rM p1,(rz I).2]
theorem abz {f:Nat} {p:RS} {st:PS} {ts rest:List Tok} {a:Ar} (hp:On p (ts++rest)) (ht:ts.map kf=JF a) (hs:bf a.name=true) :
  ∃ q,iW f p st=some (q,{ st with arrays:=st.arrays++[a] })/\b7 p q (.ok rest):=by
 obtain ⟨u,r,rfl,F,ht⟩:=map_cons ht;obtain ⟨v,r,rfl,I,ht⟩:=map_cons ht;obtain ⟨w,r,rfl,h3,ht⟩:=map_cons ht;obtain ⟨x,r,rfl,h4,ht⟩:=map_cons ht;obtain ⟨y,r,rfl,h5,ht⟩:=map_cons ht;obtain ⟨z,rfl,h6⟩:=jx ht;simp only [cons_append,nil_append] at hp;have p1:=nx hp;have p2:=nx p1;have p3:=nx p2;have p4:=nx p3;have p5:=nx p4;have p6:=nx p5;refine ⟨p.next.next.next.next.next.next,?_,p6,by rw [(fp p5).1,(fp p4).1,(fp p3).1,(fp p2).1,(fp p1).1,(fp hp).1],by rw [(fp p5).2,(fp p4).2,(fp p3).2,(fp p2).2,(fp p1).2,(fp hp).2]⟩;unfold iW;rw [ab (B0 hp F),zN p1 I hs,ab ⟨p2.code,B0 p2 h3⟩,rM p3,ab (RL h4).1,vj p4 h5,vj p5 h6,rM p1,(rz I).2,(RL h4).2]
theorem TT {rest:List Tok} {u:Tok} (hu:kf u=kS [41]):∀ (ps:List ae) (f:Nat) (acc:List ae) (p:RS) (ts:List Tok),ps.length < f->acc≠[]->c8 ps=true->On p (ts++u::rest)->ts.map kf=wq ps ->
  ∃ q,qk f acc p=some (acc++ps,q)/\b7 p q (.ok rest)
 | [],f,acc,p,ts,hf,ha,_,hp,ht=>by
  obtain ⟨f,rfl⟩:∃ g',f=g'+1:=⟨f - 1,by omega⟩
  have:ts=[]:=by simpa [wq] using ht
  subst this;rw [nil_append] at hp;refine ⟨p.next,?_,nx hp,fp hp⟩;rw [qk,L (by rw [B0 hp hu];rintro ⟨_,h⟩;cases h),vj hp hu,cY]
 | s::ps,f,acc,p,ts,hf,ha,hn,hp,ht=>by
  obtain ⟨f,rfl⟩:∃ g',f=g'+1:=⟨f - 1,by omega⟩;rw [wq] at ht;obtain ⟨v,r,rfl,F,ht⟩:=map_cons ht;obtain ⟨w,r,rfl,I,ht⟩:=map_cons ht;unfold c8 at hn;rw [all_cons,aC] at hn;simp only [cons_append] at hp;have p1:=nx hp;have p2:=nx p1
  have hal:acc.length≠0:=fun h=>ha (iC h)
  rw [length_cons] at hf
  obtain ⟨q,h3,h4⟩:=TT hu ps f (acc++[s]) p.next.next r aq (by simp) hn.2 p2 ht
  refine ⟨q,?_,h4.1,by rw [h4.2.1,(fp p1).1,(fp hp).1],by rw [h4.2.2,(fp p1).2,(fp hp).2]⟩;rw [qk,ab ⟨hp.code,Mf hp F aw⟩,L hal,vj hp F,rM p1,(rz I).2,zN p1 I hn.1,h3];simp
theorem Zv {rest:List Tok} {u:Tok} (hu:kf u=kS [41]) (ps:List ae) (f:Nat) (p:RS) (ts:List Tok) (hf:ps.length < f) (hn:c8 ps=true) (hp:On p (ts++u::rest)) (ht:ts.map kf=H6 ps) :
  ∃ q,qk f [] p=some (ps,q)/\b7 p q (.ok rest):=by
 obtain ⟨f,rfl⟩:∃ g',f=g'+1:=⟨f - 1,by omega⟩
 match ps,hn,ht,hf with
 | [],_,ht,_ =>
  have:ts=[]:=by simpa [H6] using ht
  subst this;rw [nil_append] at hp;refine ⟨p.next,?_,nx hp,fp hp⟩;rw [qk,L (by rw [B0 hp hu];rintro ⟨_,h⟩;cases h),vj hp hu]
 | s::ps,hn,ht,hf =>
  rw [H6] at ht;obtain ⟨w,r,rfl,I,ht⟩:=map_cons ht;unfold c8 at hn;rw [all_cons,aC] at hn;simp only [cons_append] at hp;have p2:=nx hp;rw [length_cons] at hf
  obtain ⟨q,h3,h4⟩:=TT hu ps f ([]++[s]) p.next r aq (by simp) hn.2 p2 ht
  refine ⟨q,?_,h4.1,by rw [h4.2.1,(fp hp).1],by rw [h4.2.2,(fp hp).2]⟩;rw [qk,ab ⟨hp.code,Mf hp I (fun h=>by cases h)⟩,ab (by rfl),rM hp,(rz I).2,zN hp I hn.1,h3];rfl
def fW (p:RS):Nat:=40 * p.l.length+100
theorem H7:∀ ps:List ae,ps.length<=(wq ps).length
 | []=>aM _
 | s::r=>by have:=H7 r;rw [wq,length_cons,length_cons,length_cons];omega
theorem Vl (ps:List ae):ps.length<=(H6 ps).length:=by
 cases ps with
 | nil=>exact aM _
 | cons s r=>have:=H7 r;rw [H6,length_cons,length_cons];omega
theorem On.len {p:RS} {ts:List Tok} (h:Go.Sp.On p ts):ts.length<=p.l.length:=by
 rw [<-h.rest,jv];omega
theorem XO {f:Nat} {q:RS} {ts:List Tok} (hq:Go.Sp.On q ts) (hs:uD q.l) (hf:fW q<=f):∃ t q',iS f (.block 1) q=some (t,q')/\kh q q' t (block q.e 1 ts):=by
 obtain ⟨t,q',F,I⟩:=(is_ (nZ ts)).block 1 ts q hq hs xF;have:=On.len hq;exact ⟨t,q',F f (by unfold KI nZ;unfold fW at hf;omega),I⟩
theorem abA {f:Nat} {p:RS} {st:PS} {ts rest:List Tok} {x:Fn × List S} (hp:On p (ts++rest)) (hs:uD p.l) (hf:fW p<=f) (ht:ts.map kf=J2 x) (F:bf x.1.name=true) (I:c8 x.1.params=true) (h3:S.db x.2=true) :
  (fw x.2 1=true->∃ q t,iW f p st=some (q,{ st with trees:=st.trees++[t],fns:=st.fns++[(x.1.name,x.1.params)] })/\er t=bU x.2/\b7 p q (.ok rest)) /\
  (fw x.2 1=false->∃ q eX,iW f p st=some (q,eX)/\q.code≠0):=by
 obtain ⟨u,r,rfl,k1,ht⟩:=map_cons ht;obtain ⟨v,r,rfl,k2,ht⟩:=map_cons ht;obtain ⟨w,r,rfl,k3,ht⟩:=map_cons ht;obtain ⟨A,r,rfl,k4,ht⟩:=dT ht;obtain ⟨y,r,rfl,k5,ht⟩:=map_cons ht;simp only [cons_append,cS] at hp;have p1:=nx hp;have p2:=nx p1;have p3:=nx p2
 have hl:p.next.next.next.l=p.l:=by rw [(fp p2).1,(fp p1).1,(fp hp).1]
 have hA:x.1.params.length<=A.length:=by have:=Vl x.1.params;rw [<-k4,bP] at this;exact this
 have cZ:=On.len p3;simp only [aO] at cZ;rw [hl] at cZ
 have Xe:x.1.params.length < f:=by unfold fW at hf;omega
 obtain ⟨q,h4,h5⟩:=Zv k5 x.1.params f p.next.next.next A Xe I p3 k4
 have r8:q.l=p.l:=h5.2.1.trans hl;obtain ⟨t,q',h6,h7⟩:=XO (f:=f) h5.1 (by rw [r8];exact hs) (by unfold fW at hf |-;rw [r8];exact hf);obtain ⟨r1,r2⟩:=Gt (e:=q.e) (d:=1) (rest:=rest) h3 ht
 have hw:iW f p st=some (q',{ st with trees:=st.trees++[t],fns:=st.fns++[(x.1.name,x.1.params)] }):=by
  unfold iW;rw [L (by rw [Mf hp k1 aw];decide),ab (B0 hp k1),zN p1 k2 F,vj p2 k3,h4];simp only;rw [ab h5.1.code,h6,rM p1,(rz k2).2]
 refine ⟨fun wg=>?_,fun wg=>?_⟩
 ·obtain ⟨t',j1,j2⟩:=r1 wg;rw [j2] at h7;obtain ⟨rfl,j3⟩:=h7;exact ⟨q',t,hw,j1,j3.1,j3.2.1.trans r8,j3.2.2.trans (h5.2.2.trans (by rw [(fp p2).2,(fp p1).2,(fp hp).2]))⟩
 ·obtain ⟨pos,j2⟩:=r2 wg;rw [j2] at h7;exact ⟨q',_,hw,b7.err h7⟩
theorem sw {acB f:Nat} {p q:RS} {st eX:PS} {u:Tok} {r:List Tok} (hp:On p (u::r)) (h:iW f p st=some (q,eX)):oH (acB+1) f p st=oH acB f q eX:=by
 rw [oH,ab ⟨hp.code,abH hp⟩,h]
theorem TW {f:Nat} {rest:List Tok}:∀ (gs:List ae) (p:RS) (st:PS) (ts:List Tok),On p (ts++rest)->ts.map kf=gs.flatMap Oo->c8 gs=true ->
  ∃ q,b7 p q (.ok rest)/\∀ acB,oH (acB+gs.length) f p st=oH acB f q { st with globals:=st.globals++gs }
 | [],p,st,ts,hp,ht,_=>by
  have:ts=[]:=by simpa using ht
  subst this;exact ⟨p,On.self hp,fun acB=>by simp⟩
 | s::gs,p,st,ts,hp,ht,hn=>by
  rw [flatMap_cons] at ht;obtain ⟨A,B,rfl,F,I⟩:=dT ht;unfold c8 at hn;rw [all_cons,aC] at hn;rw [cS] at hp;obtain ⟨q,h3,h4⟩:=abB (f:=f) (st:=st) hp F hn.1;obtain ⟨q',h5,h6⟩:=TW gs q { st with globals:=st.globals++[s] } B h4.1 I hn.2;refine ⟨q',h4.tr h5,fun acB=>?_⟩;obtain ⟨u,r,rfl,_,_⟩:=map_cons F;rw [length_cons,<-gn,sw hp h3,h6];simp
theorem TU {f:Nat} {rest:List Tok}:∀ (as:List Ar) (p:RS) (st:PS) (ts:List Tok),On p (ts++rest)->ts.map kf=as.flatMap JF->as.all oP=true ->
  ∃ q,b7 p q (.ok rest)/\∀ acB,oH (acB+as.length) f p st=oH acB f q { st with arrays:=st.arrays++as }
 | [],p,st,ts,hp,ht,_=>by
  have:ts=[]:=by simpa using ht
  subst this;exact ⟨p,On.self hp,fun acB=>by simp⟩
 | s::gs,p,st,ts,hp,ht,hn=>by
  rw [flatMap_cons] at ht;obtain ⟨A,B,rfl,F,I⟩:=dT ht;rw [all_cons,aC] at hn;rw [cS] at hp
  have eK:bf s.name=true:=by have:=hn.1;unfold oP at this;simp only [aC] at this;exact this.1.1
  obtain ⟨q,h3,h4⟩:=abz (f:=f) (st:=st) hp F eK;obtain ⟨q',h5,h6⟩:=TU gs q { st with arrays:=st.arrays++[s] } B h4.1 I hn.2;refine ⟨q',h4.tr h5,fun acB=>?_⟩;obtain ⟨u,r,rfl,_,_⟩:=map_cons F;rw [length_cons,<-gn,sw hp h3,h6];simp
def YX (x:Fn × List S):Prop:=bf x.1.name=true/\c8 x.1.params=true/\S.db x.2=true
theorem TV {f:Nat}:∀ (xs:List (Fn × List S)) (p:RS) (st:PS) (ts:List Tok),On p ts->uD p.l->fW p<=f->ts.map kf=xs.flatMap J2->(∀ x∈xs,YX x) ->
  ((xs.all fun x=>fw x.2 1)=true->∃ q l,(∀ acB,xs.length < acB->oH acB f p st=some (q,{ st with trees:=st.trees++l,fns:=st.fns++xs.map fun x=>(x.1.name,x.1.params) }))/\q.code=0/\aV l=xs.map fun x=>bU x.2) /\
  ((xs.all fun x=>fw x.2 1)=false->∃ q eX,(∀ acB,xs.length < acB->oH acB f p st=some (q,eX))/\q.code≠0)
 | [],p,st,ts,hp,_,_,ht,_=>by
  have:ts=[]:=by simpa using ht
  subst this;refine ⟨fun _=>⟨p,[],fun acB hG=>?_,hp.code,by rw [aV];rfl⟩,fun h=>by cases h⟩;obtain ⟨acB,rfl⟩:∃ g',acB=g'+1:=⟨acB - 1,by rw [length_nil] at hG;omega⟩;rw [oH,L (fun hc=>Yb hp hc.2)];simp
 | x::xs,p,st,ts,hp,hs,hf,ht,hx=>by
  rw [flatMap_cons] at ht;obtain ⟨A,B,rfl,F,I⟩:=dT ht;obtain ⟨x1,x2,x3⟩:=hx x mem_cons_self;obtain ⟨k1,k2⟩:=abA (st:=st) hp hs hf F x1 x2 x3
  have ct:∃ u r,A++B=u::r:=by obtain ⟨u,r,rfl,_,_⟩:=map_cons F;exact ⟨u,_,rfl⟩
  obtain ⟨u,r,hu⟩:=ct;rw [hu] at hp
  cases hb:fw x.2 1 with
  | false =>
   obtain ⟨q,eX,k3,k4⟩:=k2 hb;refine ⟨fun h=>(by rw [all_cons,hb] at h;cases h),fun _=>⟨q,eX,fun acB hG=>?_,k4⟩⟩;obtain ⟨acB,rfl⟩:∃ g',acB=g'+1:=⟨acB - 1,by rw [length_cons] at hG;omega⟩;rw [sw hp k3,Kw k4 (by rw [length_cons] at hG;omega)]
  | true =>
   obtain ⟨q,t,k3,k4,k5⟩:=k1 hb;have r8:q.l=p.l:=k5.2.1;obtain ⟨j1,j2⟩:=TV (f:=f) xs q { st with trees:=st.trees++[t],fns:=st.fns++[(x.1.name,x.1.params)] } B k5.1 (by rw [r8];exact hs) (by unfold fW at hf |-;rw [r8];exact hf) I (fun y hy=>hx y (dw _ hy));rw [all_cons,hb,Bool.true_and];refine ⟨fun h=>?_,fun h=>?_⟩
   ·obtain ⟨q',l,j3,j4,j5⟩:=j1 h;refine ⟨q',t::l,fun acB hG=>?_,j4,by rw [aV,k4,j5];rfl⟩;obtain ⟨acB,rfl⟩:∃ g',acB=g'+1:=⟨acB - 1,by rw [length_cons] at hG;omega⟩;rw [sw hp k3,j3 acB (by rw [length_cons] at hG;omega)];simp
   ·obtain ⟨q',eX,j3,j4⟩:=j2 h;refine ⟨q',eX,fun acB hG=>?_,j4⟩;obtain ⟨acB,rfl⟩:∃ g',acB=g'+1:=⟨acB - 1,by rw [length_cons] at hG;omega⟩;rw [sw hp k3,j3 acB (by rw [length_cons] at hG;omega)]
theorem PW (acB:List ae) (As:List Ar) (xs:List (Fn × List S)) (F:c8 acB=true) (I:As.all oP=true) (h3:∀ x∈xs,YX x) :
  ∃ ts,Tz (dW kC (dW a1 (dW g1 [] acB) As) xs) 0 ts (dW kC (dW a1 (dW g1 [] acB) As) xs).length /\
  (uD ts->∀ (e:Int) (g f:Nat),ts.length+1<=g->40 * ts.length+100<=f ->
   ((xs.all fun x=>fw x.2 1)=true->∃ q l,oH g f ⟨ts,0,e,0,0⟩ .empty=some (q,⟨l,acB,As,xs.map fun x=>(x.1.name,x.1.params)⟩)/\q.code=0/\aV l=xs.map fun x=>bU x.2) /\
   ((xs.all fun x=>fw x.2 1)=false->∃ q eX,oH g f ⟨ts,0,e,0,0⟩ .empty=some (q,eX)/\q.code≠0)):=by
 have l1:=Au (f:=g1) (k:=Oo) acB (fun s hs=>ZJ (gV.1 F s hs)) [] [] fc.nil;have l2:=Au (f:=a1) (k:=JF) As (fun s hs=>ZH (gV.1 I s hs)) _ _ l1;have l3:=Au (f:=kC) (k:=J2) xs (fun x hx=>by obtain ⟨a,b,c⟩:=h3 x hx;exact ZI a b c) _ _ l2;obtain ⟨ts,k1,k2⟩:=l3.all;refine ⟨ts,k2,fun hs e g f hg hf=>?_⟩;rw [nil_append] at k1;obtain ⟨A,C,rfl,k3,k4⟩:=dT k1;obtain ⟨A,B,rfl,k5,k6⟩:=dT k3;have Fg:On ⟨(A++B)++C,0,e,0,0⟩ (A++(B++C)):=⟨rfl,aM _,by simp,k2.kinds⟩;obtain ⟨q1,j1,j2⟩:=TW (f:=f) acB _ .empty A Fg k5 F;obtain ⟨q2,j3,j4⟩:=TU (f:=f) As q1 _ B j1.1 k6 I;have r8:q2.l=(A++B)++C:=(j1.tr j3).2.1;obtain ⟨j5,j6⟩:=TV (f:=f) xs q2 { ({ PS.empty with globals:=PS.empty.globals++acB }:PS) with arrays:=PS.empty.arrays++As } C j3.1 (by rw [r8];exact hs) (by unfold fW;rw [r8];exact hf) k4 h3
 have c1:acB.length<=A.length:=by
  have:=congrArg List.length k5;rw [bP] at this;rw [this];clear this k5 j1 j2 j3 j4 j5 j6 r8 Fg hs k1 k2 k3 l1 l2 l3 hf hg F
  induction acB with
  | nil=>exact aE _
  | cons s acB ih=>rw [flatMap_cons,aO,length_cons];simp only [Oo,length_cons,length_nil];omega
 have c2:As.length<=B.length:=by
  have:=congrArg List.length k6;rw [bP] at this;rw [this];clear this k6 j1 j2 j3 j4 j5 j6 r8 Fg hs k1 k2 k3 l1 l2 l3 hf hg I
  induction As with
  | nil=>exact aE _
  | cons s acB ih=>rw [flatMap_cons,aO,length_cons];simp only [JF,length_cons,length_nil];omega
 have c3:xs.length<=C.length:=by
  have:=congrArg List.length k4;rw [bP] at this;rw [this];clear this k4 j1 j2 j3 j4 j5 j6 r8 Fg hs k1 k2 k3 l1 l2 l3 hf hg h3
  induction xs with
  | nil=>exact aE _
  | cons s acB ih=>rw [flatMap_cons,aO,length_cons];simp only [J2,length_cons];omega
 rw [aO,aO] at hg;have ow:∃ g',xs.length < g'/\g=g'+As.length+acB.length:=⟨g - As.length - acB.length,by omega,by omega⟩;obtain ⟨g',mU,rfl⟩:=ow;rw [j2,j4];refine ⟨fun h=>?_,fun h=>?_⟩
 ·obtain ⟨q,l,j7,j8,j9⟩:=j5 h;exact ⟨q,l,j7 g' mU,j8,j9⟩
 ·obtain ⟨q,eX,j7,j8⟩:=j6 h;exact ⟨q,eX,j7 g' mU,j8⟩
structure DL (st:PS):Prop where
 globals:c8 st.globals=true
 arrays:st.arrays.all oP=true
 fns:∀ x∈st.fns,bf x.1=true/\c8 x.2=true
 trees:∀ t∈st.trees,BF t
 len:st.fns.length=st.trees.length
theorem Bj {a b:List ae} (h:c8 a=true) (k:c8 b=true):c8 (a++b)=true:=by
 unfold c8 at *;rw [List.all_append,h,k];rfl
theorem Bl {s:ae} (h:bf s=true):c8 [s]=true:=by
 unfold c8;rw [all_cons,h];rfl
theorem Sf.len {a b:List Tok} {n:Nat} (h:Sf a b n):b.length+n<=a.length:=by
 obtain ⟨p,rfl,h⟩:=h;rw [aO];omega
theorem Ks:∀ (f:Nat) (acc:List ae) (p:RS) (ts:List Tok),On p ts->th ts->ts.length+1 < f->c8 acc=true ->
  ∃ l q,qk f acc p=some (l,q)/\((∃ r n,b7 p q (.ok r)/\c8 l=true/\Sf ts r n)\/q.code≠0)
 | 0,acc,p,ts,_,_,hf,_=>by omega
 | f+1,acc,p,ts,hp,ho,hf,hn=>by
  rw [qk]
  by_cases hc:p.code=0/\is p 0 [41]=false
  ·rw [ab hc]
   have lG:(∃ r,b7 p (if acc.length=0 then p else want p [44]) (.ok r)/\Sf ts r 0)\/(if acc.length=0 then p else want p [44]).code≠0:=by
    by_cases ha:acc.length=0
    ·rw [ab ha];exact .inl ⟨ts,On.self hp,.nil _⟩
    ·rw [L ha]
     rcases nz hp (s:=[44]) aw with ⟨r,F,I⟩ | ⟨x,F,I⟩
     ·exact .inl ⟨r,I,(Sf.aW aw F).le (aM _)⟩
     ·exact .inr (b7.err I)
   generalize (if acc.length=0 then p else want p [44])=p' at *
   rcases lG with ⟨r,F,I⟩ | F
   ·rcases va F.1 with ⟨r2,h3,h4⟩ | ⟨x,h3,h4⟩
    ·obtain ⟨k1,k2⟩:=Sf.name h3 (I.ok ho);have hlen:=(I.trans k1).len;obtain ⟨l,q,k3,k4⟩:=Ks f (acc++[(tok p' 0).s]) (bL p') r2 h4.1 ((I.trans k1).ok ho) aq (Bj hn (Bl k2));refine ⟨l,q,k3,?_⟩
     rcases k4 with ⟨r3,n,k5,k6,k7⟩ | k5
     ·exact .inl ⟨r3,_,(F.tr h4).tr k5,k6,(I.trans k1).trans k7⟩
     ·exact .inr k5
    ·exact ⟨_,_,Aq (b7.err h4) aq,.inr (b7.err h4)⟩
   ·rw [PJ F];exact ⟨_,_,Aq F aq,.inr F⟩
  ·rw [L hc]
   rcases nz hp (s:=[41]) aw with ⟨r,F,I⟩ | ⟨x,F,I⟩
   ·exact ⟨acc,_,rfl,.inl ⟨r,1,I,hn,Sf.aW aw F⟩⟩
   ·exact ⟨acc,_,rfl,.inr (b7.err I)⟩
theorem XQ {f:Nat} {p:RS} {st:PS} {u:Tok} {r0:List Tok} (hp:On p (u::r0)) (ho:th (u::r0)) (hs:uD p.l) (hf:fW p<=f) (cj:DL st) :
  ∃ q eX,iW f p st=some (q,eX)/\((∃ r n,b7 p q (.ok r)/\DL eX/\Sf (u::r0) r (n+1)/\aB eX.trees<=n+1+aB st.trees)\/q.code≠0):=by
 have p1:=nx hp;have iQ:=Sf.one u r0;unfold iW
 by_cases F:is p 0 mK=true
 ·rw [ab F]
  rcases va p1 with ⟨r1,a1,a2⟩ | ⟨x,a1,a2⟩
  ·obtain ⟨b1,b2⟩:=Sf.name a1 (iQ.ok ho);have b3:=iQ.trans b1;have a3:b7 p (bL p.next) (.ok r1):=(On.next hp).tr a2
   by_cases I:(bL p.next).code=0/\is (bL p.next) 0 [91]=true
   ·rw [ab I]
    have h3:sign r1 0=[91]:=by
     have:=On.is a2.1 0 (s:=[91]) aw;rw [I.2] at this;simpa using this.symm
    obtain ⟨v,h4,_⟩:=vf aw h3;have b4:=b3.trans (Sf.sign aw h3);have p2:=a2.1;rw [h4] at p2
    have a4:b7 p (bL p.next).next (.ok r1.tail):=a3.tr (On.next p2)
    have p3:=nx p2
    by_cases h5:(tok (bL p.next).next 0).kind=1
    ·rw [ab h5]
     cases hr:r1.tail with
     | nil =>
      rw [hr] at p3;have:=On.tok p3 0;rw [this] at h5;cases h5
     | cons w r3 =>
      rw [hr] at p3 a4 b4;have p4:=nx p3;have b5:=b4.trans (Sf.one w r3);have a5:=a4.tr (On.next p3);rw [rM p3] at h5;have hw:=(b4.ok ho w mem_cons_self).num h5
      rcases nz p4 (s:=[93]) aw with ⟨r4,c1,c2⟩ | ⟨x,c1,c2⟩
      ·rcases nz c2.1 (s:=[59]) aw with ⟨r5,d1,d2⟩ | ⟨x,d1,d2⟩
       ·refine ⟨_,_,rfl,.inl ⟨r5,0,(a5.tr c2).tr d2,⟨cj.globals,?_,cj.fns,cj.trees,cj.len⟩,((b5.trans (Sf.aW aw c1)).trans (Sf.aW aw d1)).le aq,by simp only;omega⟩⟩;simp only;rw [List.all_append,cj.arrays,all_cons,List.all_nil,Bool.and_true,Bool.true_and];unfold oP;rw [rM p3,b2];simp only [aC,Bool.not_eq_true',decide_eq_false_iff_not];exact ⟨⟨trivial,by omega⟩,by omega⟩
       ·exact ⟨_,_,rfl,.inr (b7.err d2)⟩
      ·refine ⟨_,_,rfl,.inr ?_⟩;rw [hY (b7.err c2)];exact b7.err c2
    ·rw [L h5];exact ⟨_,_,rfl,.inr (b7.err (On.lE p3))⟩
   ·rw [L I]
    rcases nz a2.1 (s:=[59]) aw with ⟨r4,c1,c2⟩ | ⟨x,c1,c2⟩
    ·exact ⟨_,_,rfl,.inl ⟨r4,0,a3.tr c2,⟨Bj cj.globals (Bl b2),cj.arrays,cj.fns,cj.trees,cj.len⟩,(b3.trans (Sf.aW aw c1)).le aq,by simp only;omega⟩⟩
    ·exact ⟨_,_,rfl,.inr (b7.err c2)⟩
  ·rw [L (fun h=>b7.err a2 h.1),hY (b7.err a2)];exact ⟨_,_,rfl,.inr (b7.err a2)⟩
 ·rw [L F]
  by_cases I:is p 0 od=true
  ·rw [ab I]
   rcases va p1 with ⟨r1,a1,a2⟩ | ⟨x,a1,a2⟩
   ·obtain ⟨b1,b2⟩:=Sf.name a1 (iQ.ok ho);have b3:=iQ.trans b1;have a3:b7 p (bL p.next) (.ok r1):=(On.next hp).tr a2
    rcases nz a2.1 (s:=[40]) aw with ⟨r2,c1,c2⟩ | ⟨x,c1,c2⟩
    ·have b4:=b3.trans (Sf.aW aw c1);have a4:=a3.tr c2;have hl:=On.len c2.1;have kW:(want (bL p.next) [40]).l=p.l:=a4.2.1;obtain ⟨l,q,k1,k2⟩:=Ks f [] _ r2 c2.1 (b4.ok ho) (by rw [kW] at hl;unfold fW at hf;omega) rfl;rw [k1];simp only
     rcases k2 with ⟨r3,n,k3,k4,k5⟩ | k3
     ·have a5:=a4.tr k3;have r8:q.l=p.l:=a5.2.1;rw [ab k3.1.code];obtain ⟨t,q',k6,k7⟩:=XO (f:=f) k3.1 (by rw [r8];exact hs) (by unfold fW at hf |-;rw [r8];exact hf);rw [k6];simp only;have b5:=b4.trans k5
      cases hb:block q.e 1 r3 with
      | error x=>rw [hb] at k7;exact ⟨_,_,rfl,.inr (b7.err k7)⟩
      | ok y =>
       obtain ⟨t',r4⟩:=y;rw [hb] at k7;obtain ⟨rfl,k7⟩:=k7;obtain ⟨k8,k9⟩:=LJ (b5.ok ho) hb;refine ⟨_,_,rfl,.inl ⟨r4,n+aK t+2,a5.tr k7,⟨cj.globals,cj.arrays,?_,?_,?_⟩,(b5.trans k9).le aq,?_⟩⟩
       ·intro x hx
        rcases nA hx with hx | hx
        ·exact cj.fns x hx
        ·rw [mem_singleton] at hx;subst hx;exact ⟨b2,k4⟩
       ·intro x hx
        rcases nA hx with hx | hx
        ·exact cj.trees x hx
        ·rw [mem_singleton] at hx;subst hx;exact k8
       ·simp only [aO,length_cons,length_nil];have:=cj.len;omega
       ·simp only [oq,aB];omega
     ·rw [L k3];exact ⟨_,_,rfl,.inr k3⟩
    ·rw [Aq (b7.err c2) (by unfold fW at hf;omega)];simp only;rw [L (b7.err c2)];exact ⟨_,_,rfl,.inr (b7.err c2)⟩
   ·rw [hY (b7.err a2),Aq (b7.err a2) (by unfold fW at hf;omega)];simp only;rw [L (b7.err a2)];exact ⟨_,_,rfl,.inr (b7.err a2)⟩
  ·rw [L I];exact ⟨_,_,rfl,.inr (b7.err (On.lE hp))⟩
theorem Ku {f:Nat}:∀ (acB:Nat) (p:RS) (st:PS) (ts:List Tok),On p ts->th ts->uD p.l->fW p<=f->DL st->ts.length < acB ->
  ∃ q eX,oH acB f p st=some (q,eX)/\(q.code=0->DL eX/\aB eX.trees<=ts.length+aB st.trees)
 | 0,p,st,ts,_,_,_,_,_,hG=>by omega
 | acB+1,p,st,ts,hp,ho,hs,hf,cj,hG=>by
  cases ts with
  | nil =>
   rw [oH,L (fun hc=>Yb hp hc.2)];exact ⟨p,st,rfl,fun _=>⟨cj,by simp⟩⟩
  | cons u r0 =>
   obtain ⟨q,eX,F,I⟩:=XQ hp ho hs hf cj;rw [sw hp F];rw [length_cons] at hG
   rcases I with ⟨r,n,h3,h4,h5,h6⟩ | h3
   ·have hl:=h5.len;rw [length_cons] at hl;have r8:q.l=p.l:=h3.2.1;obtain ⟨q',st2,k1,k2⟩:=Ku acB q eX r h3.1 (h5.ok ho) (by rw [r8];exact hs) (by unfold fW at hf |-;rw [r8];exact hf) h4 aq;exact ⟨q',st2,k1,fun hc=>by obtain ⟨k3,k4⟩:=k2 hc;exact ⟨k3,by rw [length_cons];omega⟩⟩
   ·exact ⟨q,eX,Kw h3 aq,fun hc=>absurd hc h3⟩
def qw (st:PS):List Fn:=st.fns.mapIdx fun i x=>⟨x.1,x.2,((aB (st.trees.take i):Nat):Int)⟩
def same (p:Src) (st:PS):Bool:=gx (fun x y=>x==y) p.globals st.globals&&(gx AV p.arrays st.arrays&&(gx sZ p.fns (qw st)&&gx mi p.nodes (bN 0 st.trees)))
structure Reads (x:ae) (ts:List Tok) (c z:Int) (q:RS) (st:PS):Prop where
 lex:oy x (x.length+1) 0 []=some (ts,c,z)
 len:ts.length<=x.length
 read:oH (ts.length+1) (40 * ts.length+100) ⟨ts,0,(x.length:Int),0,0⟩ .empty=some (q,st)
 ok:q.code=0->DL st/\aB st.trees<=ts.length
theorem reads (x:ae):∃ ts c z q st,Reads x ts c z q st:=by
 obtain ⟨ts,c,z,F,I,h3,h4⟩:=tC x (x.length+1) 0 [] (aM _) aq (fun t h=>by simp at h) .nil (fun t h=>by simp at h) (aE _);have Fg:On ⟨ts,0,(x.length:Int),0,0⟩ ts:=⟨rfl,aM _,rfl,fun t ht=>(I t ht).kinds⟩;obtain ⟨q,st,h5,h6⟩:=Ku (f:=40 * ts.length+100) (ts.length+1) _ .empty ts Fg I h3 (aE _) ⟨rfl,rfl,fun x h=>(by cases h),fun x h=>(by cases h),rfl⟩ aq;exact ⟨ts,c,z,q,st,F,h4,h5,fun h=>by obtain ⟨a,b⟩:=h6 h;exact ⟨a,by simpa [PS.empty,aB] using b⟩⟩
structure Forms (l:List T) (ls:List (List S)):Prop where
 len:ls.length=l.length
 at_:∀ (i:Nat) t b,l[i]?=some t->ls[i]?=some b->S.db b=true/\er t=bU b
theorem GM:∀ (l:List T),(∀ t∈l,BF t)->∃ ls,Forms l ls
 | [],_=>⟨[],rfl,fun i t b h=>by simp at h⟩
 | t::l,h=>by
  obtain ⟨b,F,I⟩:=h t mem_cons_self
  obtain ⟨ls,h3⟩:=GM l fun u hu=>h u (dw _ hu)
  refine ⟨b::ls,by simp [h3.len],fun i t' b' k1 k2=>?_⟩
  cases i with
  | zero=>cases k1;cases k2;exact ⟨F,I⟩
  | succ i=>exact h3.at_ i t' b' (by simpa using k1) (by simpa using k2)
theorem gw.mem {Q:Fn->T->Prop}:∀ {fns:List Fn} {a:Nat} {l:List T},gw Q fns a l->(∀ f∈fns,∃ t∈l,Q f t)/\(∀ t∈l,∃ f∈fns,Q f t)
 | [],_,[],_=>⟨fun f h=>(by cases h),fun f h=>(by cases h)⟩
 | f::r,a,t::l,h=>by
  rw [gw] at h;obtain ⟨k1,k2⟩:=gw.mem h.2.2;refine ⟨fun g hg=>?_,fun u hu=>?_⟩
  ·rcases de hg with rfl | hg
   ·exact ⟨t,mem_cons_self,h.2.1⟩
   ·obtain ⟨u,a,b⟩:=k1 g hg;exact ⟨u,dw _ a,b⟩
  ·rcases de hu with rfl | hu
   ·exact ⟨f,mem_cons_self,h.2.1⟩
   ·obtain ⟨g,a,b⟩:=k2 u hu;exact ⟨g,dw _ a,b⟩
 | [],_,t::l,h=>by cases h
 | f::r,_,[],h=>by cases h
theorem il.Ga {p:Src} {l:List T} (h:il p l):∃ ls,Forms l ls:=by
 refine GM l fun t ht=>?_
 obtain ⟨f,_,F⟩:=(gw.mem h.fns).2 t ht;exact toB F.all F.kind
theorem il.at_ {p:Src} {l:List T} (h:il p l):nI l:=by
 have:∀ l:List T,(∀ t∈l,dP t=true)->nI l:=by
  intro l
  induction l with
  | nil=>intro _;trivial
  | cons t l ih=>intro h;rw [nI];exact ⟨Nu t (h t mem_cons_self),ih fun u hu=>h u (dw _ hu)⟩
 refine this l fun t ht=>?_
 obtain ⟨f,_,F⟩:=(gw.mem h.fns).2 t ht;exact F.all
theorem il.EO {p:Src} {l:List T} (h:il p l):kB p.nodes p.fns 0 []=some (l,p.nodes.length):=by
 rw [JM p.fns 0 [] l h.st h.fns h.at_,h.len];simp
theorem il.k {p:Src} {l:List T} (h:il p l):l.all iT=true:=by
 rw [gV];intro t ht;obtain ⟨f,_,F⟩:=(gw.mem h.fns).2 t ht;exact Tc t F.all
theorem Oe {l:List T} {ls:List (List S)} (h:Forms l ls):aV l=ls.map bU:=by
 rw [ur];apply List.ext_getElem?;intro i;rw [aP,aP];have hl:=h.len
 cases F:l[i]? with
 | none =>
  rw [List.getElem?_eq_none_iff] at F;rw [List.getElem?_eq_none_iff.2 aq];rfl
 | some t =>
  have hi:=(bo F).1
  have I:ls[i]?=some (ls[i]'aq):=by simp [hl,hi]
  rw [I];exact congrArg some (h.at_ i t _ F I).2
theorem zip_fst {α β:Type}:∀ (a:List α) (b:List β),a.length=b.length->(a.zip b).map Prod.fst=a
 | [],[],_=>rfl
 | x::a,y::b,h=>by rw [zip_cons_cons,List.map_cons,zip_fst a b (by simpa using h)]
 | [],y::b,h=>by simp at h
 | x::a,[],h=>by simp at h
theorem EJ {α β:Type}:∀ (a:List α) (b:List β),a.length=b.length->(a.zip b).map Prod.snd=b
 | [],[],_=>rfl
 | x::a,y::b,h=>by rw [zip_cons_cons,List.map_cons,EJ a b (by simpa using h)]
 | [],y::b,h=>by simp at h
 | x::a,[],h=>by simp at h
theorem zX (l:List T) (i:Nat):aB (l.take i)=aB ((aV l).take i):=by
 rw [ur,<-List.map_take,<-ur,xv]
theorem Yx {p:Src} {l:List T} {l':List T} {ls:List (List S)} (h:il p l) (he:aV l'=aV l):same p ⟨l',p.globals,p.arrays,p.fns.map fun x=>(x.name,x.params)⟩=true:=by
 unfold same;simp only [aC];refine ⟨so (fun x=>by simp) _,so (fun x=>by simp [AV]) _,?_,?_⟩
 ·have:qw ⟨l',p.globals,p.arrays,p.fns.map fun x=>(x.name,x.params)⟩=p.fns:=by
   unfold qw;apply List.ext_getElem?;intro i;simp only [List.getElem?_mapIdx,aP]
   cases hf:p.fns[i]? with
   | none=>rfl
   | some f =>
    have hlen:=gw.len h.fns;have hi:=(bo hf).1
    have ht:l[i]?=some (l[i]'aq):=by simp [<-hlen,hi]
    have hb:=(gw.at_ h.fns i f _ hf ht).1;rw [cI,zX,<-he,<-zX] at hb;simp only [Option.map_some];rw [<-hb]
  rw [this];refine so (fun x=>?_) _;simp [sZ,so]
 ·rw [ed.all h.st h.len];exact D2 _ _ 0 he.symm
theorem XW {p:Src} {l:List T} {ls:List (List S)} (h:il p l) (hf:Forms l ls):ox dB gP p l=dW kC (dW a1 (dW g1 [] p.globals) p.arrays) (p.fns.zip ls):=by
 unfold ox
 refine NG _ _ _ _ hf.len fun i t b F I=>?_
 obtain ⟨h3,h4⟩:=hf.at_ i t b F I;rw [<-NA,h4];exact wG b h3 0
theorem MQ {p:Src} {l:List T} {ls:List (List S)} (h:il p l) (hf:Forms l ls) {ts:List Tok} {c z:Int} {q:RS} {st:PS} (hr:Reads (ox dB gP p l) ts c z q st) :
  c=0/\((ls.all fun b=>fw b 1)=true->q.code=0/\aB st.trees<=800/\same p st=true)/\((ls.all fun b=>fw b 1)=false->q.code≠0):=by
 have hx:=XW h hf;have hlen:=gw.len h.fns;have rp:=hf.len
 have ua:∀ x∈p.fns.zip ls,YX x:=by
  intro x hx;obtain ⟨f,b⟩:=x;obtain ⟨i,hi⟩:=List.getElem?_of_mem hx;rw [List.getElem?_zip_eq_some] at hi;have tU:=(bo hi.2).1
  have ht:l[i]?=some (l[i]'aq):=by simp [<-rp,tU]
  have F:=(gw.at_ h.fns i f _ hi.1 ht).2;exact ⟨F.name,F.params,(hf.at_ i _ b ht hi.2).1⟩
 obtain ⟨us,F,I⟩:=PW p.globals p.arrays (p.fns.zip ls) h.globals h.arrays ua;rw [<-hx] at F;have h3:=Va F rfl ((ox dB gP p l).length+1) [] aq;rw [nil_append,hr.lex] at h3;simp only [Option.some.injEq,Prod.mk.injEq] at h3;obtain ⟨rfl,rfl,rfl⟩:=h3
 have abr:uD ts:=by
  obtain ⟨jV,c',z',k1,k2,k3,k4⟩:=tC (ox dB gP p l) ((ox dB gP p l).length+1) 0 [] (aM _) aq (fun t h=>by simp at h) .nil (fun t h=>by simp at h) (aE _);rw [hr.lex] at k1;cases k1;exact k3
 obtain ⟨h4,h5⟩:=I abr ((ox dB gP p l).length:Int) (ts.length+1) (40 * ts.length+100) (aE _) (aE _)
 have aY:((p.fns.zip ls).all fun x=>fw x.2 1)=ls.all fun b=>fw b 1:=by
  have:ls=(p.fns.zip ls).map Prod.snd:=(EJ _ _ aq).symm
  conv=>rhs;rw [this]
  rw [List.all_map];rfl
 rw [aY] at h4 h5;refine ⟨rfl,fun wg=>?_,fun wg=>?_⟩
 ·obtain ⟨q',l',k1,k2,k3⟩:=h4 wg;rw [hr.read] at k1;simp only [Option.some.injEq,Prod.mk.injEq] at k1;obtain ⟨rfl,rfl⟩:=k1
  have e1:((p.fns.zip ls).map fun x=>bU x.2)=ls.map bU:=by
   have:ls=(p.fns.zip ls).map Prod.snd:=(EJ _ _ aq).symm
   conv=>rhs;rw [this]
   rw [map_map];rfl
  have e2:((p.fns.zip ls).map fun x=>(x.1.name,x.1.params))=p.fns.map fun x=>(x.name,x.params):=by
   have:p.fns=(p.fns.zip ls).map Prod.fst:=(zip_fst _ _ aq).symm
   conv=>rhs;rw [this]
   rw [map_map];rfl
  have he:aV l'=aV l:=by rw [k3,e1,Oe hf]
  refine ⟨k2,?_,?_⟩
  ·simp only;rw [<-xv,he,xv,h.len];exact h.few
  ·rw [e2];exact Yx (ls:=ls) h he
 ·obtain ⟨q',eX,k1,k2⟩:=h5 wg;rw [hr.read] at k1;simp only [Option.some.injEq,Prod.mk.injEq] at k1;obtain ⟨rfl,rfl⟩:=k1;exact k2
theorem JX {α:Type} {p:α->α->Bool} {a b:List α} (h:gx p a b=true) {x:α} (hx:x∈a):∃ y∈b,p x y=true:=by
 obtain ⟨i,hi⟩:=List.getElem?_of_mem hx;have hl:=Ah h;have ak:=(bo hi).1
 have hb:b[i]?=some (b[i]'aq):=by simp [<-hl,ak]
 exact ⟨_,bA hb,Gy hi hb h⟩
theorem MD {p:Src} {l:List T} (hn:p.nodes.length<=800) (hb:kB p.nodes p.fns 0 []=some (l,p.nodes.length)) {st:PS} (fx:DL st) (hs:same p st=true):il p l:=by
 obtain ⟨l',F,I,h3,h4,h5⟩:=DS _ _ _ _ _ hb;rw [nil_append] at F;subst F;unfold same at hs;simp only [aC] at hs;obtain ⟨s1,s2,s3,s4⟩:=hs
 have hz:aB l=p.nodes.length:=by omega
 have Xt:=ed.all I hz;rw [Xt] at s4
 have hlen:l.length=st.trees.length:=by
  have a1:=gw.len h3;have a2:=Ah s3;unfold qw at a2;rw [List.length_mapIdx] at a2;have:=fx.len;omega
 have he:=Vx hlen s4
 have mT:∀ f∈p.fns,bf f.name=true/\c8 f.params=true:=by
  intro f hf;obtain ⟨g,hg,hp⟩:=JX s3 hf;unfold qw at hg;obtain ⟨i,hi⟩:=List.getElem?_of_mem hg;rw [List.getElem?_mapIdx] at hi
  cases hx:st.fns[i]? with
  | none=>rw [hx] at hi;cases hi
  | some x =>
   rw [hx] at hi;cases hi;simp only [sZ,aC,beq_iff_eq] at hp;obtain ⟨⟨k1,k2⟩,_⟩:=hp;obtain ⟨k3,k4⟩:=fx.fns x (bA hx);rw [k1,Ag k2];exact ⟨k3,k4⟩
 have htr:∀ t∈l,t.n.kind=14/\dP t=true:=by
  intro t ht
  have h6:er t∈aV l:=by rw [ur];exact List.mem_map_of_mem ht
  rw [he,ur] at h6;obtain ⟨u,hu,h7⟩:=mP.1 h6;obtain ⟨b,k1,k2⟩:=fx.trees u hu;rw [h7] at k2
  have oE:yV t:=by
   have:∀ l:List T,nI l->t∈l->yV t:=by
    intro l
    induction l with
    | nil=>intro _ h;cases h
    | cons v l ih =>
     intro h hm;rw [nI] at h
     rcases de hm with rfl | hm
     ·exact h.1
     ·exact ih h.2 hm
   exact this l h5 ht
  refine ⟨?_,Nv t (by rw [k2];exact S.wH b k1) oE⟩;have:=congrArg (fun x=>x.n.kind) k2;simp only [y7] at this;exact this
 refine ⟨?_,?_,I,gw.mono h3 fun f t hf ht _=>⟨(mT f hf).1,(mT f hf).2,(htr t ht).1,(htr t ht).2⟩,hz,hn⟩
 ·rw [Ag s1];exact fx.globals
 ·rw [gV];intro a ha;obtain ⟨b,hb,hp⟩:=JX s2 ha;have h6:=gV.1 fx.arrays b hb;simp only [AV,aC,beq_iff_eq] at hp;unfold oP at h6 |-;rw [hp.1,hp.2];exact h6
def bC {α:Type} (f:α->Nat):List α->Nat
 | []=>0
 | x::l=>f x+bC f l
theorem Cu {α:Type} (f:α->Nat) (a b:List α):bC f (a++b)=bC f a+bC f b:=by
 induction a with
 | nil=>simp [bC]
 | cons x a ih=>simp only [cons_append,bC,ih];omega
theorem VI {α:Type} {f g:α->Nat} {l:List α} (h:∀ x∈l,f x<=g x):bC f l<=bC g l:=by
 induction l with
 | nil=>exact aE _
 | cons x l ih =>
  have F:=h x mem_cons_self
  have I:=ih fun y hy=>h y (dw _ hy)
  simp only [bC];omega
theorem pf {α:Type} {f:α->Nat} {l:List α} {x:α} (h:x∈l):f x<=bC f l:=by
 induction l with
 | nil=>cases h
 | cons y l ih =>
  rw [bC]
  rcases de h with rfl | h
  ·omega
  ·have:=ih h;omega
theorem nQ {α:Type} {f g:α->Nat} {k:Nat} {l:List α} (h:∀ x∈l,f x<=k * g x):bC f l<=k * bC g l:=by
 induction l with
 | nil=>exact aM _
 | cons x l ih =>
  have F:=h x mem_cons_self
  have I:=ih fun y hy=>h y (dw _ hy)
  simp only [bC,Nat.mul_add];omega
theorem vh {α:Type} (f:α->Nat) (l:List α) (h:∀ x∈l,1<=f x):l.length<=bC f l:=by
 induction l with
 | nil=>exact aM _
 | cons x l ih =>
  have F:=h x mem_cons_self
  have I:=ih fun y hy=>h y (dw _ hy)
  rw [bC,length_cons];omega
theorem IB {α β:Type} (f:α->Nat) (g:β->Nat):∀ (a:List α) (b:List β),bC (fun x:α × β=>f x.1+g x.2) (a.zip b)<=bC f a+bC g b
 | [],b=>by simp [bC]
 | x::a,[]=>by simp [bC]
 | x::a,y::b=>by
  have:=IB f g a b;simp only [zip_cons_cons,bC] at *;omega
theorem xI {α:Type} (f:α->ae):∀ (l:List α) (acc:ae),(dW f acc l).length=acc.length+bC (fun x=>(f x).length) l
 | [],acc=>by simp [dW,bC]
 | x::l,acc=>by rw [dW,xI f l,aO,bC];omega
def uh (n:Nd):Nat:=n.s.length+60
mutual
theorem YW:∀ (t:T) (a:Nat),lA t=bC uh (eN a t)
 | .mk n l,a=>by rw [lA,eN,bC,AK l (a+1),uh]
theorem AK:∀ (l:List T) (a:Nat),iy l=bC uh (bN a l)
 | [],a=>rfl
 | t::r,a=>by rw [iy,bN,Cu,YW t a,AK r (a+aK t)]
end
def wi (l:List T) (i:Nat):Nat:=match l[i]? with | some t=>lA t | none=>0
theorem abQ (l:List T):wi l 0+wi l 1+wi l 2<=iy l:=by
 match l with
 | []=>simp [wi]
 | [a]=>simp only [wi,iy];simp
 | [a,b]=>simp only [wi,iy];simp
 | a::b::c::r=>simp only [wi,iy];simp;omega
theorem J7 {l:List T} {f:T->ae} (h:∀ t∈l,(f t).length<=lA t) (i:Nat):((l.map f).getD i []).length<=wi l i:=by
 rw [List.getD_eq_getElem?_getD,aP];unfold wi
 cases hi:l[i]? with
 | none=>simp
 | some t=>exact h t (bA hi)
theorem Lj {l:List T} {t:T} (h:t∈l):aK t<=aB l:=by
 induction l with
 | nil=>cases h
 | cons a l ih =>
  rw [aB]
  rcases de h with rfl | h
  ·omega
  ·have:=ih h;omega
theorem Lf {f:T->ae}:∀ {l:List T},(∀ t∈l,(f t).length+4<=lA t)->lO (l.map f)<=iy l
 | [],_=>aM _
 | t::l,h=>by
  have F:=h t mem_cons_self
  have I:=Lf (l:=l) fun y hy=>h y (dw _ hy)
  rw [List.map_cons,lO,iy];omega
theorem YE:∀ (N:Nat) (t:T),aK t<=N->rF t->∀ d,(lz dB gP d t).length+4<=lA t/\(oC dB gP d t).length<=lA t:=by
 intro N
 induction N with
 | zero=>intro t h;have:=jy t;omega
 | succ N ih =>
  intro t hN hn d;have dr:=fA t;rw [sD] at hn
  have hk:∀ a∈t.kids,∀ d,(lz dB gP d a).length+4<=lA a/\(oC dB gP d a).length<=lA a:=fun a ha d=>ih a (by have:=Lj ha;omega) (kZ hn.2 ha) d
  have hx:=J7 (l:=t.kids) (f:=dB) (fun a ha=>by have:=xy (aK a) a (aE _) (kZ hn.2 ha);omega);have hb:=J7 (l:=t.kids) (f:=oC dB gP d) (fun a ha=>(hk a ha d).2);have h3:=abQ t.kids;have hw:=qu t;have jc:=xy (aK t) t (aE _) ((sD t).2 hn);have x0:=hx 0;have x1:=hx 1;have b1:=hb 1;have b2:=hb 2;constructor
  ·rw [Qd,JL];unfold yP;split
   ·simp only [aO,length_cons,length_nil];omega
   split
   ·simp only [aO,length_cons,length_nil];omega
   split
   ·simp only [aO,length_cons,length_nil];omega
   split
   ·split
    ·simp only [aO,length_cons,length_nil];omega
    ·simp only [aO,length_cons,length_nil];omega
   split
   ·simp only [aO,length_cons,length_nil];omega
   split
   ·simp only [aO,length_cons,length_nil];omega
   split
   ·simp only [aO,length_cons,length_nil];omega
   ·omega
  ·rw [Nz,Ld]
   have:=Lf (f:=lz dB gP (d+1)) (l:=t.kids) fun a ha=>(hk a ha (d+1)).1
   have e:∀ l:List ae,(gP l d).length=3+lO l:=fun l=>by
    unfold gP;rw [aO,uJ];simp only [length_cons,length_nil];omega
   rw [e];omega
def wS (l:List ae):Nat:=bC (fun s=>s.length+1) l
def fC (p:Src):Nat:=wS p.globals+bC (fun a:Ar=>a.name.length+1) p.arrays+bC (fun f:Fn=>f.name.length+wS f.params+1) p.fns+bC (fun n:Nd=>n.s.length+n.kids.length+1) p.nodes
structure xD (p:Src):Prop where
 arrays:∀ a∈p.arrays,-9223372036854775808<=a.size/\a.size<=9223372036854775807
 nodes:∀ n∈p.nodes,-9223372036854775808<=n.n/\n.n<=9223372036854775807
mutual
theorem eF.num {nodes:List Nd} (h:∀ n∈nodes,-9223372036854775808<=n.n/\n.n<=9223372036854775807):∀ (t:T) (a:Nat),eF nodes a t->rF t
 | .mk n l,a,hs=>by
  rw [eF] at hs;rw [rF];exact ⟨h n (bA hs.1),ed.num h l _ hs.2.2⟩
theorem ed.num {nodes:List Nd} (h:∀ n∈nodes,-9223372036854775808<=n.n/\n.n<=9223372036854775807):∀ (l:List T) (a:Nat),ed nodes a l->rG l
 | [],a,_=>trivial
 | t::r,a,hs=>by
  rw [ed] at hs;rw [rG];exact ⟨eF.num h t a hs.1,ed.num h r _ hs.2⟩
end
theorem SG (l:List ae):(l.map fun y=>y.length+2).sum=bC (fun s=>s.length+2) l:=by
 induction l with
 | nil=>rfl
 | cons s l ih=>rw [List.map_cons,sum_cons,ih,bC]
theorem IU (l:List T):iy l=bC lA l:=by
 induction l with
 | nil=>rfl
 | cons t l ih=>rw [iy,bC,ih]
theorem U3 {p:Src} {l:List T} (hn:xD p) (hs:ed p.nodes 0 l) (hz:aB l=p.nodes.length):(ox dB gP p l).length<=100 * fC p:=by
 have jH:=ed.num hn.nodes l 0 hs
 have e1:bC (fun s=>(g1 s).length) p.globals<=100 * wS p.globals:=nQ fun s _=>by simp only [g1,aO,length_cons,length_nil];omega
 have e2:bC (fun a=>(a1 a).length) p.arrays<=100 * bC (fun a:Ar=>a.name.length+1) p.arrays:=nQ fun a ha=>by
  have:=zF (hn.arrays a ha);simp only [a1,aO,length_cons,length_nil];omega
 have e3:bC (fun x=>(cy dB gP x).length) (p.fns.zip l)<=bC (fun x:Fn × T=>(fun f:Fn=>100 * (f.name.length+wS f.params+1)) x.1+lA x.2) (p.fns.zip l):=VI fun x hx=>by
  have F:=(YE (aK x.2) x.2 (aE _) (kZ jH (List.of_mem_zip hx).2) 0).2;have I:=B1 x.1.params;rw [SG] at I
  have h3:bC (fun s=>s.length+2) x.1.params<=2 * wS x.1.params:=nQ fun s _=>by omega
  simp only [cy,aO,length_cons,length_nil];omega
 have e4:=IB (fun f:Fn=>100 * (f.name.length+wS f.params+1)) lA p.fns l
 have e5:bC (fun f:Fn=>100 * (f.name.length+wS f.params+1)) p.fns<=100 * bC (fun f:Fn=>f.name.length+wS f.params+1) p.fns:=nQ fun f _=>aE _
 have e6:bC uh p.nodes<=100 * bC (fun n:Nd=>n.s.length+n.kids.length+1) p.nodes:=nQ fun n _=>by unfold uh;omega
 have e7:bC lA l=bC uh p.nodes:=by rw [<-IU,AK l 0,<-ed.all hs hz]
 unfold ox fC;rw [xI,xI,xI];simp only [length_nil];have e8:=kA e3 e4;generalize bC (fun x=>(cy dB gP x).length) (p.fns.zip l)=v3 at *;generalize bC (fun s=>(g1 s).length) p.globals=v1 at *;generalize bC (fun a=>(a1 a).length) p.arrays=v2 at *;omega
theorem IK {p:Src} {l:List T} (hs:ed p.nodes 0 l) (hz:aB l=p.nodes.length):∀ t∈l,lA t<=100 * fC p/\aK t<=fC p:=fun t ht=>by
 have e6:bC uh p.nodes<=100 * bC (fun n:Nd=>n.s.length+n.kids.length+1) p.nodes:=nQ fun n _=>by unfold uh;omega
 have e7:bC lA l=bC uh p.nodes:=by rw [<-IU,AK l 0,<-ed.all hs hz]
 have e8:=pf (f:=lA) ht;have e9:=Lj ht
 have e10:=vh (fun n:Nd=>n.s.length+n.kids.length+1) p.nodes fun n _=>by omega
 unfold fC;omega
theorem DF (l:List ae):l.length<=wS l:=vh _ l fun s _=>by omega
theorem Qw {l:List ae} {s:ae} (h:s∈l):s.length+1<=wS l:=pf (f:=fun s:ae=>s.length+1) h
structure Small (p:Src) (n:Nat):Prop where
 globals:p.globals.length<=n/\∀ s∈p.globals,s.length<=n
 arrays:p.arrays.length<=n/\∀ a∈p.arrays,a.name.length<=n
 fns:p.fns.length<=n/\∀ f∈p.fns,f.name.length<=n/\f.params.length<=n/\∀ s∈f.params,s.length<=n
 nodes:p.nodes.length<=n/\∀ x∈p.nodes,x.s.length<=n/\x.kids.length<=n
theorem jO (p:Src):Small p (fC p):=by
 have a1:=DF p.globals
 have a2:=vh (fun a:Ar=>a.name.length+1) p.arrays fun a _=>by omega
 have a3:=vh (fun f:Fn=>f.name.length+wS f.params+1) p.fns fun a _=>by omega
 have a4:=vh (fun n:Nd=>n.s.length+n.kids.length+1) p.nodes fun a _=>by omega
 unfold fC;refine ⟨⟨by omega,fun s hs=>?_⟩,⟨by omega,fun a ha=>?_⟩,⟨by omega,fun f hf=>?_⟩,⟨by omega,fun n hn=>?_⟩⟩
 ·have:=Qw hs;omega
 ·have:=pf (f:=fun a:Ar=>a.name.length+1) ha;omega
 ·have:=pf (f:=fun f:Fn=>f.name.length+wS f.params+1) hf;refine ⟨by omega,by have:=DF f.params;omega,fun s hs=>by have:=Qw hs;omega⟩
 ·have:=pf (f:=fun n:Nd=>n.s.length+n.kids.length+1) hn;exact ⟨by omega,by omega⟩
structure BA (st:PS) (n:Nat):Prop where
 globals:st.globals.length<=n
 arrays:st.arrays.length<=n
 fns:st.fns.length<=n
 params:∀ x∈st.fns,x.2.length<=n
theorem Pg:∀ (f:Nat) (acc:List ae) (p:RS) (l:List ae) (q:RS),qk f acc p=some (l,q)->l.length<=acc.length+f
 | 0,_,_,_,_,h=>by cases h
 | f+1,acc,p,l,q,h=>by
  rw [qk] at h;split at h
  ·have:=Pg f _ _ l q h;rw [aO,length_cons,length_nil] at this;omega
  ·cases h;omega
theorem BA.up {st:PS} {n:Nat} (h:BA st n):BA st (n+1):=by
 obtain ⟨a,b,c,d⟩:=h;exact ⟨by omega,by omega,by omega,fun x hx=>by have:=d x hx;omega⟩
theorem Zx {f n:Nat} {p q:RS} {st eX:PS} (hf:f<=n) (h:iW f p st=some (q,eX)) (hs:BA st n):BA eX (n+1):=by
 have key:=hs.up;obtain ⟨a,b,c,d⟩:=hs;unfold iW at h;split at h
 ·split at h
  ·split at h
   ·cases h;exact ⟨by simp;omega,by simp;omega,by simp;omega,fun x hx=>by have:=d x hx;omega⟩
   ·cases h;exact key
  ·cases h;exact ⟨by simp;omega,by simp;omega,by simp;omega,fun x hx=>by have:=d x hx;omega⟩
 ·split at h
  ·cases hm:qk f [] (want (bL p.next) [40]) with
   | none=>rw [hm] at h;cases h
   | some r =>
    obtain ⟨l,q1⟩:=r;rw [hm] at h;simp only at h;have hl:=Pg _ _ _ _ _ hm;split at h
    ·split at h
     ·cases h
     ·cases h;refine ⟨by simp;omega,by simp;omega,by simp;omega,fun x hx=>?_⟩
      rcases nA hx with hx | hx
      ·have:=d x hx;omega
      ·rw [mem_singleton] at hx;subst hx;simp at hl |-;omega
    ·cases h;exact key
  ·cases h;exact key
theorem Pj {f:Nat}:∀ (acB n:Nat) (p q:RS) (st eX:PS),f<=n->oH acB f p st=some (q,eX)->BA st n->BA eX (n+acB)
 | 0,n,p,q,st,eX,_,h,_=>by cases h
 | acB+1,n,p,q,st,eX,hf,h,hs=>by
  rw [oH] at h;split at h
  ·cases hw:iW f p st with
   | none=>rw [hw] at h;cases h
   | some r =>
    obtain ⟨q1,s1⟩:=r;rw [hw] at h;simp only at h;have:=Pj acB (n+1) q1 q s1 eX aq h (Zx hf hw hs);rw [show n+(acB+1)=n+1+acB by omega];exact this
  ·cases h;obtain ⟨a,b,c,d⟩:=hs;exact ⟨by omega,by omega,by omega,fun x hx=>by have:=d x hx;omega⟩
mutual
theorem Rh:∀ (t:T) (a:Nat),∀ n∈eN a t,n.kids.length<=aK t
 | .mk m l,a,n,h=>by
  rw [eN] at h;rw [aK]
  rcases de h with rfl | h
  ·simp only [dF];have:=c6 l;omega
  ·have:=BL l (a+1) n h;omega
theorem BL:∀ (l:List T) (a:Nat),∀ n∈bN a l,n.kids.length<=aB l
 | [],a,n,h=>by rw [bN] at h;cases h
 | t::r,a,n,h=>by
  rw [bN] at h;rw [aB]
  rcases nA h with h | h
  ·have:=Rh t a n h;omega
  ·have:=BL r _ n h;omega
end
end Go.Im
namespace Go.Sp
open Go.Xp
structure Gi (p:Src) (ls:List (List S)):Prop where
 len:ls.length=p.fns.length
 at_:∀ (i:Nat) f l,p.fns[i]?=some f->ls[i]?=some l->0<=f.body/\S.db l=true/\wt (bU l)<=1000000000/\∃ t,sub p.nodes (fN p.nodes) f.body.toNat=some t/\er t=bU l
theorem Vk (a:E) (ho:a.ok=true):(a.bF).length+4<=wt a.tree:=(E.len a ho).1
theorem Ux {l:List S} (ho:S.db l=true) (hw:wt (bU l)<=1000000000) :
  ∃ ts t q f,Go.Sp.jP (gg E.bF l)=some ts/\(gg E.bF l).length<=1000000000/\ts.length<=1000000000/\1+f<=1099511627776/\mS f (.block 1) ⟨ts,0,(gg E.bF l).length,0,0⟩=some (t,q)/\q.l=ts/\((q.code=0/\q.i=ts.length/\fw l 1=true)\/(q.code≠0/\fw l 1=false)):=by
 have hlen:=um E.bF Vk ho;generalize hx:gg E.bF l=x at *;obtain ⟨ts,F,I⟩:=(KE ho).all;rw [hx] at I;have h3:=I.len;have Fg:On ⟨ts,0,x.length,0,0⟩ ts:=⟨rfl,aM _,rfl,I.kinds⟩;have ct:rs (x.length:Int) (nZ ts) (.block 1) ts≠.error bd:=xF;obtain ⟨t,q,h4,h5⟩:=(js (nZ ts)).block 1 ts _ Fg ct;have XE:=Gt (e:=(x.length:Int)) (d:=1) (rest:=[]) ho F;rw [cY] at XE
 change kh _ q t (block (x.length:Int) 1 ts) at h5
 refine ⟨ts,t,q,KF (nZ ts),I.all,by omega,by omega,by unfold KF nZ;omega,h4 _ (aE _),?_⟩
 cases hf:fw l 1 with
 | true =>
  obtain ⟨t',_,h6⟩:=XE.1 hf;rw [h6] at h5;obtain ⟨_,h7,h8,_⟩:=h5;have h8:q.l=ts:=h8;refine ⟨h8,.inl ⟨h7.code,?_,rfl⟩⟩;have hr:=congrArg List.length h7.rest;have hle:=h7.le;rw [jv] at hr;rw [h8] at hr hle;simp only [length_nil] at hr;omega
 | false =>
  obtain ⟨pos,h6⟩:=XE.2 hf;rw [h6] at h5;exact ⟨h5.2.2.2.1,.inr ⟨b7.err h5,rfl⟩⟩
end Go.Sp
namespace Go.Im
open Go.Xp Go.Sp
def MC (p:Src) (x:ae):Bool:=match oy x (x.length+1) 0 [] with
 | none=>false
 | some (ts,c,z)=>if c≠0 then false else match oH (ts.length+1) (40 * ts.length+100) ⟨ts,0,(x.length:Int),0,0⟩ .empty with
  | none=>false
  | some (q,st)=>if q.code≠0 then false else if aB st.trees > 800 then false else same p st
def fI (p:Src):Bool:=if p.nodes.length > 800 then false else match kB p.nodes p.fns 0 [] with
 | none=>false
 | some (l,e)=>if e≠p.nodes.length then false else if l.all iT=false then false else MC p (ox dB gP p l)
theorem Cg {p:Src} {x:ae} {ts:List Tok} {c z:Int} {q:RS} {st:PS} (h:Reads x ts c z q st):MC p x=if c≠0 then false else if q.code≠0 then false else if aB st.trees > 800 then false else same p st:=by
 unfold MC;rw [h.lex];simp only;rw [h.read]
theorem aan {p:Src} {l:List T} {ls:List (List S)} (h:il p l) (hf:Forms l ls):fI p=ls.all fun b=>fw b 1:=by
 unfold fI;have h8:=h.few;rw [L aq,h.EO];simp only;rw [L (by simp),L (by rw [h.k];decide)];obtain ⟨ts,c,z,q,st,hr⟩:=reads (ox dB gP p l);obtain ⟨F,I,h3⟩:=MQ h hf hr;rw [Cg hr,L (by simpa using F)]
 cases hb:ls.all fun b=>fw b 1 with
 | false=>rw [ab (h3 hb)]
 | true =>
  obtain ⟨k1,k2,k3⟩:=I hb;rw [L (by simpa using k1),L aq,k3]
theorem vw {p:Src} (h:fI p=true):∃ l,il p l:=by
 unfold fI at h
 by_cases h8:p.nodes.length > 800
 ·rw [ab h8] at h;cases h
 rw [L h8] at h
 cases hb:kB p.nodes p.fns 0 [] with
 | none=>rw [hb] at h;cases h
 | some y =>
  obtain ⟨l,e⟩:=y;rw [hb] at h;simp only at h
  by_cases he:e=p.nodes.length
  ·subst he;rw [L (by simp)] at h
   by_cases hk:l.all iT=false
   ·rw [ab hk] at h;cases h
   rw [L hk] at h;obtain ⟨ts,c,z,q,st,hr⟩:=reads (ox dB gP p l);rw [Cg hr] at h;split at h
   ·cases h
   split at h
   ·cases h
   ·rename_i hc;split at h
    ·cases h
    ·exact ⟨l,MD aq hb (hr.ok (by simpa using hc)).1 h⟩
  ·rw [ab he] at h;cases h
theorem aam {p:Src} (h:pJ p=some false):fI p=false:=by
 cases hf:fI p with
 | false=>rfl
 | true =>
  obtain ⟨l,F⟩:=vw hf;rw [F.pJ] at h;cases h
theorem ed.ix {nodes:List Nd}:∀ (l:List T) (a i:Nat) (t:T),ed nodes a l->l[i]?=some t->eF nodes (a+aB (l.take i)) t
 | [],a,i,t,_,h=>by simp at h
 | u::r,a,0,t,h,hi=>by
  cases hi;rw [ed] at h;exact h.1
 | u::r,a,i+1,t,h,hi=>by
  rw [ed] at h;have:=ed.ix r (a+aK u) i t h.2 (by simpa using hi);rw [take_succ_cons,aB,<-gn];exact this
mutual
theorem QN:∀ t:T,wt t<=lA t
 | .mk n l=>by have:=IV l;rw [wt,lA];omega
theorem IV:∀ l:List T,fG l<=iy l
 | []=>aE _
 | t::r=>by have:=QN t;have:=IV r;rw [fG,iy];omega
end
theorem NB {p:Src} {l:List T} {ls:List (List S)} (h:il p l) (hf:Forms l ls) (hw:fC p<=1048576):Gi p ls:=by
 have hl:=gw.len h.fns;refine ⟨by rw [hf.len];omega,fun i f b F I=>?_⟩;have hi:=(bo I).1;have hlen:=hf.len
 have ht:l[i]?=some (l[i]'aq):=by simp [<-hlen,hi]
 obtain ⟨h3,h4⟩:=hf.at_ i _ b ht I;obtain ⟨h5,h6⟩:=gw.at_ h.fns i f _ F ht;have h7:=ed.ix l 0 i _ h.st ht;rw [cI] at h5 h7;have hm:=bA ht;have h8:=IK h.st h.len _ hm;have h9:=QN (l[i]'aq);have mF:=eF.le _ _ h7;refine ⟨by omega,h3,by rw [<-h4,Up];omega,_,?_,h4⟩;rw [h5,pM];exact (xu _).1 _ _ h7 (by unfold fN;omega)
theorem pj {α:Type} (f:α->Nat) (l:List α) (k:Nat):bC f (l.take k)<=bC f l:=by
 have:bC f l=bC f (l.take k)+bC f (l.drop k):=by rw [<-Cu,take_append_drop]
 omega
def tG (w left:Nat):Int:=if w<=left then ((left - w:Nat):Int) else -1
theorem iY {w left:Nat} (h:w<=left):tG w left=((left - w:Nat):Int):=by unfold tG;rw [ab h]
theorem eM {w left:Nat} (h:left < w):tG w left = -1:=by unfold tG;rw [L aq]
theorem ph {α:Type} (w:α->Nat) (l:List α):bC (fun x=>w x+1) l=l.length+bC w l:=by
 induction l with
 | nil=>rfl
 | cons x l ih=>rw [bC,ih,bC,length_cons];omega
theorem pg {α:Type} {w:α->Nat} {l:List α} {k:Nat} {x:α} (h:l[k]?=some x):bC w (l.take (k+1))=bC w (l.take k)+w x:=by
 have:l.take (k+1)=l.take k++[x]:=by rw [cq,h];rfl
 rw [this,Cu,bC,bC];rfl
theorem mx {α β:Type} {f:α->β} {l:List α} {k:Nat} {x:α} {Z:β} (h:l[k]?=some x):((l.take k).map f++List.replicate (l.length - k) Z).set k (f x)=(l.take (k+1)).map f++List.replicate (l.length - (k+1)) Z:=by
 have hk:=(bo h).1
 have ht:l.take (k+1)=l.take k++[x]:=by rw [cq,h];rfl
 have hl:((l.take k).map f).length=k:=by rw [bP,cX];omega
 rw [show l.length - k=(l.length - (k+1))+1 by omega,List.replicate_succ,List.set_append_right _ _ aq,hl,gT,List.set_cons_zero,ht,gU];simp
theorem mw {α β:Type} {f:α->β} {l:List α} {k:Nat} {Z:β} (h:k<=l.length):((l.take k).map f++List.replicate (l.length - k) Z).length=l.length:=by
 rw [aO,bP,cX,List.length_replicate];omega
theorem mu {α β:Type} {f:α->β} {l:List α} {Z:β}:(l.take l.length).map f++List.replicate (l.length - l.length) Z=l.map f:=by
 rw [bW,gT];simp
theorem EN {p:Src} {l:List T} (h:il p l):∀ a∈p.arrays,0<=a.size/\a.size<=2147483647:=fun a ha=>by
 have:=gV.1 h.arrays a ha;unfold oP at this;simp only [aC,Bool.not_eq_true',decide_eq_false_iff_not] at this;omega
end Go.Im
