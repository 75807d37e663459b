/- Part 2 of proofs that are told in their last texts. -/
import Derived.Test.YtfdcdcleipmmdaaGreatDoorQ1
open List (all_cons cons_append drop_left find?_eq_none flatMap_cons foldl_cons getElem?_take length_cons length_nil map_map mem_append mem_cons_self mem_singleton nil_append sum_cons tail_cons take_append_drop take_succ_cons take_zero zip_cons_cons)
set_option linter.unusedVariables false
set_option linter.unusedSimpArgs false
set_option maxRecDepth 100000
namespace Go.Xp
open Go.Sp (bx fa)
section
variable {e:Int} {d:Nat} {ts rest:List Tok} {Q:T->Prop} {b:Bool}
theorem S.head {s:S} (ho:s.ok=true) (ht:ts.map kf=s.tk):∃ t r,ts=t::r/\∀ rest,sign (t::rest) 0≠eM/\sign (t::rest) 0≠[125]:=by
 cases s with
 | set s a =>
  rw [S.tk] at ht;obtain ⟨t,r,rfl,I,_⟩:=map_cons ht;obtain ⟨I,_⟩:=qX I;exact ⟨t,r,rfl,fun rest=>⟨jo I aw,jo I aw⟩⟩
 | put s a b =>
  rw [S.tk] at ht;obtain ⟨t,r,rfl,I,_⟩:=map_cons ht;obtain ⟨I,_⟩:=qX I;exact ⟨t,r,rfl,fun rest=>⟨jo I aw,jo I aw⟩⟩
 | if1 c b =>
  rw [S.tk] at ht;obtain ⟨t,r,rfl,I,_⟩:=map_cons ht;exact ⟨t,r,rfl,fun rest=>by rw [tU I];decide⟩
 | if2 c b b2 =>
  rw [S.tk] at ht;obtain ⟨t,r,rfl,I,_⟩:=map_cons ht;exact ⟨t,r,rfl,fun rest=>by rw [tU I];decide⟩
 | while_ c b =>
  rw [S.tk] at ht;obtain ⟨t,r,rfl,I,_⟩:=map_cons ht;exact ⟨t,r,rfl,fun rest=>by rw [tU I];decide⟩
 | ret a =>
  rw [S.tk] at ht;obtain ⟨t,r,rfl,I,_⟩:=map_cons ht;exact ⟨t,r,rfl,fun rest=>by rw [tU I];decide⟩
 | var s a =>
  rw [S.tk] at ht;obtain ⟨t,r,rfl,I,_⟩:=map_cons ht;exact ⟨t,r,rfl,fun rest=>by rw [tU I];decide⟩
 | do_ a =>
  simp only [S.ok] at ho;obtain ⟨k0,r0,hh,hf⟩:=E.head a ho;rw [S.tk,hh] at ht;obtain ⟨t,r,rfl,I,_⟩:=map_cons ht;refine ⟨t,r,rfl,fun rest=>?_⟩
  rcases BD (r:=rest) (by rw [I];exact hf) with h | h | h | h | h <;> (rw [h];decide)
def sd (l:List S):Prop:=∀ (e:Int) (d:Nat) (acc:List T) (ts rest:List Tok) (u:Tok),S.df l=true->ts.map kf=S.nC l->u.kind=3->u.s=[125] ->
 (S.fits l d=true->∃ ys,aQ ys=S.trees l/\Eb e d acc (ts++u::rest) (.ok (acc++ys,rest)))/\(S.fits l d=false->∃ pos,Eb e d acc (ts++u::rest) (.error (9,pos)))
theorem Nf:sd []:=by
 intro e d acc ts rest u _ ht hu gD
 have:ts=[]:=by simpa [S.nC] using ht
 subst this;refine ⟨fun _=>⟨[],rfl,1,fun f hf=>?_⟩,fun h=>by simp [S.fits] at h⟩;obtain ⟨f,rfl⟩:∃ g,f=g+1:=⟨f - 1,by omega⟩;rw [rs.body,ae (by exact uV hu gD),iy];rfl
theorem Ln {a:S} {l:List S} (Ca:se a) (Cl:sd l):sd (a::l):=by
 intro e d acc ts rest u ho ht hu gD;simp only [S.df,aE] at ho;rw [S.nC] at ht;obtain ⟨A,B,rfl,h3,h4⟩:=dx ht;obtain ⟨t,r,rfl,hh⟩:=S.head ho.1 h3
 have cj:sign (B++u::rest) 0≠eM:=by
  cases l with
  | nil =>
   have:B=[]:=by simpa [S.nC] using h4
   subst this;rw [nil_append,uV hu gD];decide
  | cons a' l' =>
   simp only [S.df,aE] at ho;rw [S.nC] at h4;obtain ⟨A',B',rfl,h5,h6⟩:=dx h4;obtain ⟨t',r',rfl,hh'⟩:=S.head ho.2.1 h5;exact (hh' _).1
 have hx:=Ca e d (t::r) (B++u::rest) ho.1 h3 cj
 have he:t::r++B++u::rest=t::r++(B++u::rest):=by simp
 have hs:sign (t::r++(B++u::rest)) 0≠[125]:=(hh _).2;rw [he,S.fits]
 cases hfa:a.fit d with
 | false =>
  refine ⟨fun hb=>(by simp at hb),fun _=>?_⟩;obtain ⟨pos,f0,h0⟩:=hx.2 hfa;refine ⟨pos,f0+1,fun f hf=>?_⟩;obtain ⟨f,rfl⟩:∃ g,f=g+1:=⟨f - 1,by omega⟩;rw [rs.body,ab hs,h0 f aq]
 | true =>
  obtain ⟨ta,k1,f0,h0⟩:=hx.1 hfa;have hl:=Cl e d (acc++[ta]) B rest u ho.2 h4 hu gD;refine ⟨fun hb=>?_,fun hb=>?_⟩
  ·obtain ⟨ys,k3,c8,k4⟩:=hl.1 (by simpa using hb);refine ⟨ta::ys,by rw [aQ,k1,k3,S.trees],f0+c8+1,fun f hf=>?_⟩;obtain ⟨f,rfl⟩:∃ g,f=g+1:=⟨f - 1,by omega⟩;rw [rs.body,ab hs,h0 f aq];simp only;rw [k4 f aq,iw];rfl
  ·obtain ⟨pos,c8,k3⟩:=hl.2 (by simpa using hb);refine ⟨pos,f0+c8+1,fun f hf=>?_⟩;obtain ⟨f,rfl⟩:∃ g,f=g+1:=⟨f - 1,by omega⟩;rw [rs.body,ab hs,h0 f aq];exact k3 f aq
theorem sd.blk {l:List S} (C:sd l) {A:List Tok} {u w:Tok} (ho:S.df l=true) (ht:A.map kf=S.nC l) (hu:u.kind=3) (gD:u.s=[123]) (hw:w.kind=3) (Fa:w.s=[125]) :
  Sx e (.block d) (u::(A++w::rest)) rest (fun t=>er t=.mk ⟨14,0,0,[],[]⟩ (S.trees l)) (decide (d<=60)&&S.fits l (d+1)):=by
 have hb:=C e (d+1) [] A rest w ho ht hw Fa
 by_cases hd:d<=60
 ·have:(decide (d<=60)&&S.fits l (d+1))=S.fits l (d+1):=by simp [hd]
  rw [this];refine ⟨fun h=>?_,fun h=>?_⟩
  ·obtain ⟨ys,k1,f0,h0⟩:=hb.1 h;refine ⟨one 14 u.at_ [] ys,by show er _=_;rw [dZ,k1],f0+1,fun f hf=>?_⟩;obtain ⟨f,rfl⟩:∃ g,f=g+1:=⟨f - 1,by omega⟩;rw [rs,ab aq,rO hu gD];simp only;rw [h0 f aq];rfl
  ·obtain ⟨pos,f0,h0⟩:=hb.2 h;refine ⟨pos,f0+1,fun f hf=>?_⟩;obtain ⟨f,rfl⟩:∃ g,f=g+1:=⟨f - 1,by omega⟩;rw [rs,ab aq,rO hu gD];simp only;rw [h0 f aq]
 ·have:(decide (d<=60)&&S.fits l (d+1))=false:=by simp [hd]
  rw [this];exact ⟨fun hb=>(by cases hb),fun _=>⟨_,sZ fun f=>by rw [rs,ae aq]⟩⟩
theorem yt {j:rH} {x:Rd T} {jz:List Tok} {j':rH} {x':Rd T} (h:Es e j ts x) (hs:∀ f,rs e f j ts=x->rs e (f+1) j' jz=x'):Es e j' jz x':=by
 obtain ⟨f0,h0⟩:=h;refine ⟨f0+1,fun f hf=>?_⟩;obtain ⟨f,rfl⟩:∃ g,f=g+1:=⟨f - 1,by omega⟩;exact hs f (h0 f aq)
theorem JM {j j2:rH} {x x2:Rd T} {jz wT:List Tok} {j':rH} {x':Rd T} (h:Es e j ts x) (F:Es e j2 wT x2) (hs:∀ f,rs e f j ts=x->rs e f j2 wT=x2->rs e (f+1) j' jz=x'):Es e j' jz x':=by
 obtain ⟨f0,h0⟩:=h;obtain ⟨c8,I⟩:=F;refine ⟨f0+c8+1,fun f hf=>?_⟩;obtain ⟨f,rfl⟩:∃ g,f=g+1:=⟨f - 1,by omega⟩;exact hs f (h0 f aq) (I f aq)
theorem Qc (c:E) {l:List S} (C:sd l):se (.if1 c l):=by
 intro e d ts rest ho ht eR;simp only [S.ok,aE] at ho;rw [S.tk] at ht;obtain ⟨v,r,rfl,I,F⟩:=map_cons ht;obtain ⟨u,r,rfl,h3,h4⟩:=map_cons F;obtain ⟨A,r,rfl,h5,h6⟩:=dx h4;obtain ⟨w,r,rfl,h7,h8⟩:=map_cons h6;obtain ⟨x,r,rfl,h9,ma⟩:=map_cons h8;obtain ⟨B,r,rfl,pE,o7⟩:=dx ma;obtain ⟨y,rfl,fu⟩:=iP o7;obtain ⟨I,c7⟩:=eC I;obtain ⟨h3,kZ⟩:=eC h3;obtain ⟨h7,lB⟩:=eC h7;obtain ⟨h9,EV⟩:=eC h9;obtain ⟨fu,BG⟩:=eC fu
 have he:v::u::(A++w::x::(B++[y]))++rest=v::u::(A++w::(x::(B++y::rest))):=by simp
 have hi:=wv (e:=e) (d:=d+1) (rest:=x::(B++y::rest)) ho.1 h5 h3 kZ h7 lB (by simp);have hb:=C.blk (e:=e) (d:=d+1) (rest:=rest) ho.2 pE h9 EV fu BG;have hv:=uV (rest:=u::(A++w::(x::(B++y::rest)))) I c7;rw [he,S.fit]
 refine qE fun hd=>?_
 cases hfa:qO c (d+1) with
 | false =>
  refine ⟨fun hb=>(by simp at hb),fun _=>?_⟩;obtain ⟨pos,k1⟩:=hi.2 hfa;refine ⟨pos,sZ fun f=>?_⟩;rw [rs,ab aq];simp only;rw [ab (by rw [hv];decide),ae (.inl hv),tail_cons,k1]
 | true =>
  obtain ⟨tc,k1,k2⟩:=hi.1 hfa;rw [Bool.true_and];refine ⟨fun h=>?_,fun h=>?_⟩
  ·obtain ⟨tb,k3,k4⟩:=hb.1 h;refine ⟨one 9 v.at_ [] [tc,tb],by show er _=_;rw [dZ,aQ,aQ,k1,k3,S.tree];rfl,yt k4 fun f k4=>?_⟩;rw [rs,ab aq];simp only;rw [ab (by rw [hv];decide),ae (.inl hv),tail_cons,k2];simp only;rw [k4];simp only;rw [ae hv,ab eR];rfl
  ·obtain ⟨pos,k3⟩:=hb.2 h;refine ⟨pos,yt k3 fun f k3=>?_⟩;rw [rs,ab aq];simp only;rw [ab (by rw [hv];decide),ae (.inl hv),tail_cons,k2];simp only;rw [k3]
theorem Lp (c:E) {l:List S} (C:sd l):se (.while_ c l):=by
 intro e d ts rest ho ht eR;simp only [S.ok,aE] at ho;rw [S.tk] at ht;obtain ⟨v,r,rfl,I,F⟩:=map_cons ht;obtain ⟨u,r,rfl,h3,h4⟩:=map_cons F;obtain ⟨A,r,rfl,h5,h6⟩:=dx h4;obtain ⟨w,r,rfl,h7,h8⟩:=map_cons h6;obtain ⟨x,r,rfl,h9,ma⟩:=map_cons h8;obtain ⟨B,r,rfl,pE,o7⟩:=dx ma;obtain ⟨y,rfl,fu⟩:=iP o7;obtain ⟨I,c7⟩:=eC I;obtain ⟨h3,kZ⟩:=eC h3;obtain ⟨h7,lB⟩:=eC h7;obtain ⟨h9,EV⟩:=eC h9;obtain ⟨fu,BG⟩:=eC fu
 have he:v::u::(A++w::x::(B++[y]))++rest=v::u::(A++w::(x::(B++y::rest))):=by simp
 have hi:=wv (e:=e) (d:=d+1) (rest:=x::(B++y::rest)) ho.1 h5 h3 kZ h7 lB (by simp);have hb:=C.blk (e:=e) (d:=d+1) (rest:=rest) ho.2 pE h9 EV fu BG;have hv:=uV (rest:=u::(A++w::(x::(B++y::rest)))) I c7;rw [he,S.fit]
 refine qE fun hd=>?_
 cases hfa:qO c (d+1) with
 | false =>
  refine ⟨fun hb=>(by simp at hb),fun _=>?_⟩;obtain ⟨pos,k1⟩:=hi.2 hfa;refine ⟨pos,sZ fun f=>?_⟩;rw [rs,ab aq];simp only;rw [ab (by rw [hv];decide),ae (.inr hv),tail_cons,k1]
 | true =>
  obtain ⟨tc,k1,k2⟩:=hi.1 hfa;rw [Bool.true_and];refine ⟨fun h=>?_,fun h=>?_⟩
  ·obtain ⟨tb,k3,k4⟩:=hb.1 h;refine ⟨one 10 v.at_ [] [tc,tb],by show er _=_;rw [dZ,aQ,aQ,k1,k3,S.tree];rfl,yt k4 fun f k4=>?_⟩;rw [rs,ab aq];simp only;rw [ab (by rw [hv];decide),ae (.inr hv),tail_cons,k2];simp only;rw [k4];simp only;rw [ab (by rw [hv];decide)];rfl
  ·obtain ⟨pos,k3⟩:=hb.2 h;refine ⟨pos,yt k3 fun f k3=>?_⟩;rw [rs,ab aq];simp only;rw [ab (by rw [hv];decide),ae (.inr hv),tail_cons,k2];simp only;rw [k3]
theorem Qd (c:E) {l l2:List S} (C:sd l) (C2:sd l2):se (.if2 c l l2):=by
 intro e d ts rest ho ht eR;simp only [S.ok,aE] at ho;rw [S.tk] at ht;obtain ⟨v,r,rfl,I,F⟩:=map_cons ht;obtain ⟨u,r,rfl,h3,h4⟩:=map_cons F;obtain ⟨A,r,rfl,h5,h6⟩:=dx h4;obtain ⟨w,r,rfl,h7,h8⟩:=map_cons h6;obtain ⟨x,r,rfl,h9,ma⟩:=map_cons h8;obtain ⟨B,r,rfl,pE,o7⟩:=dx ma;obtain ⟨y,r,rfl,fu,CA⟩:=map_cons o7;obtain ⟨z,r,rfl,VF,h16⟩:=map_cons CA;obtain ⟨x2,r,rfl,VG,h18⟩:=map_cons h16;obtain ⟨B2,r,rfl,h19,h20⟩:=dx h18;obtain ⟨y2,rfl,JX⟩:=iP h20;obtain ⟨I,c7⟩:=eC I;obtain ⟨h3,kZ⟩:=eC h3;obtain ⟨h7,lB⟩:=eC h7;obtain ⟨h9,EV⟩:=eC h9;obtain ⟨fu,BG⟩:=eC fu;obtain ⟨VF,ZM⟩:=eC VF;obtain ⟨VG,ZN⟩:=eC VG;obtain ⟨JX,ZO⟩:=eC JX
 have he:v::u::(A++w::x::(B++y::z::x2::(B2++[y2])))++rest=v::u::(A++w::(x::(B++y::(z::(x2::(B2++y2::rest)))))):=by simp
 have hi:=wv (e:=e) (d:=d+1) (rest:=x::(B++y::(z::(x2::(B2++y2::rest))))) ho.1 h5 h3 kZ h7 lB (by simp);have hb:=C.blk (e:=e) (d:=d+1) (rest:=z::(x2::(B2++y2::rest))) ho.2.1 pE h9 EV fu BG;have fv:=C2.blk (e:=e) (d:=d+1) (rest:=rest) ho.2.2 h19 VG ZN JX ZO;have hv:=uV (rest:=u::(A++w::(x::(B++y::(z::(x2::(B2++y2::rest))))))) I c7;have hz:=uV (rest:=x2::(B2++y2::rest)) VF ZM;rw [he,S.fit]
 refine qE fun hd=>?_
 cases hfa:qO c (d+1) with
 | false =>
  refine ⟨fun hb=>(by simp at hb),fun _=>?_⟩;obtain ⟨pos,k1⟩:=hi.2 hfa;refine ⟨pos,sZ fun f=>?_⟩;rw [rs,ab aq];simp only;rw [ab (by rw [hv];decide),ae (.inl hv),tail_cons,k1]
 | true =>
  obtain ⟨tc,k1,k2⟩:=hi.1 hfa;rw [Bool.true_and]
  cases hfb:(decide (d+1<=60)&&S.fits l (d+2)) with
  | false =>
   refine ⟨fun hb=>(by simp at hb),fun _=>?_⟩;obtain ⟨pos,k3⟩:=hb.2 hfb;refine ⟨pos,yt k3 fun f k3=>?_⟩;rw [rs,ab aq];simp only;rw [ab (by rw [hv];decide),ae (.inl hv),tail_cons,k2];simp only;rw [k3]
  | true =>
   obtain ⟨tb,k3,k4⟩:=hb.1 hfb;rw [Bool.true_and];refine ⟨fun h=>?_,fun h=>?_⟩
   ·obtain ⟨tb2,k5,k6⟩:=fv.1 h;refine ⟨one 9 v.at_ [] [tc,tb,tb2],by show er _=_;rw [dZ,aQ,aQ,aQ,k1,k3,k5,S.tree];rfl,JM k4 k6 fun f k4 k6=>?_⟩;rw [rs,ab aq];simp only;rw [ab (by rw [hv];decide),ae (.inl hv),tail_cons,k2];simp only;rw [k4];simp only;rw [ae hv,ae hz,tail_cons,k6];rfl
   ·obtain ⟨pos,k5⟩:=fv.2 h;refine ⟨pos,JM k4 k5 fun f k4 k5=>?_⟩;rw [rs,ab aq];simp only;rw [ab (by rw [hv];decide),ae (.inl hv),tail_cons,k2];simp only;rw [k4];simp only;rw [ae hv,ae hz,tail_cons,k5]
end
mutual
theorem coreS:∀ (s:S),se s
 | .set s a=>Qh s a
 | .put s a b=>Qf s a b
 | .if1 c b=>Qc c (zC b)
 | .if2 c b b2=>Qd c (zC b) (zC b2)
 | .while_ c b=>Lp c (zC b)
 | .ret a=>Qg a
 | .do_ a=>TI a
 | .var s a=>Qi s a
theorem zC:∀ (l:List S),sd l
 | []=>Nf
 | a::l=>Ln (coreS a) (zC l)
end
def Lk (l:List S):List K:=kS [123]::(S.nC l++[kS [125]])
def bO (l:List S):T:=.mk ⟨14,0,0,[],[]⟩ (S.trees l)
def eW (l:List S) (d:Nat):Bool:=decide (d<=60)&&S.fits l (d+1)
theorem YA (e:Int):∀ f,(∀ j ts,rs e f j ts=.error bb\/rs e (f+1) j ts=rs e f j ts)/\(∀ d acc ts,rs.body e f d acc ts=.error bb\/rs.body e (f+1) d acc ts=rs.body e f d acc ts):=by
 intro f
 induction f with
 | zero=>exact ⟨fun j ts=>.inl (by simp [rs]),fun d acc ts=>.inl (by simp [rs.body])⟩
 | succ f ih =>
  obtain ⟨i1,i2⟩:=ih;refine ⟨fun j ts=>?_,fun d acc ts=>?_⟩
  ·cases j with
   | block d =>
    rw [rs,rs];split
    ·exact .inr rfl
    ·cases aP e [123] ts with
     | error x=>exact .inr rfl
     | ok r =>
      simp only
      rcases i2 (d+1) [] r with h | h
      ·left;rw [h]
      ·rw [h];exact .inr rfl
   | stmt d =>
    rw [rs,rs];split
    ·exact .inr rfl
    ·simp only;split
     ·exact .inr rfl
     ·split
      ·cases inner e (d+1) [40] [41] ts.tail with
       | error x=>exact .inr rfl
       | ok y =>
        obtain ⟨c,r⟩:=y;simp only
        rcases i1 (.block (d+1)) r with h | h
        ·left;rw [h]
        ·rw [h]
         cases rs e f (.block (d+1)) r with
         | error x=>exact .inr rfl
         | ok y =>
          obtain ⟨b,r⟩:=y;simp only;split
          ·split
           ·rcases i1 (.block (d+1)) r.tail with h | h
            ·left;rw [h]
            ·rw [h];exact .inr rfl
           ·exact .inr rfl
          ·exact .inr rfl
      ·exact .inr rfl
  ·rw [rs.body,rs.body];split
   ·exact .inr rfl
   ·rcases i1 (.stmt d) ts with h | h
    ·left;rw [h]
    ·rw [h]
     cases rs e f (.stmt d) ts with
     | error x=>exact .inr rfl
     | ok y=>exact i2 _ _ _
theorem UF {e:Int} {f f':Nat} {j:rH} {ts:List Tok} (h:rs e f j ts≠.error bb) (hf:f<=f'):rs e f' j ts=rs e f j ts:=by
 obtain ⟨k,rfl⟩:=Nat.exists_eq_add_of_le hf;clear hf
 induction k with
 | zero=>rfl
 | succ k ih =>
  rcases (YA e (f+k)).1 j ts with I | I
  ·rw [ih] at I;exact absurd I h
  ·rw [<-gW,I,ih]
theorem Gf {l:List S} {e:Int} {d:Nat} {ts rest:List Tok} (ho:S.df l=true) (ht:ts.map kf=Lk l) :
  (eW l d=true->∃ t,er t=bO l/\block e d (ts++rest)=.ok (t,rest))/\(eW l d=false->∃ pos,block e d (ts++rest)=.error (9,pos)):=by
 obtain ⟨u,r,rfl,I,F⟩:=map_cons ht;obtain ⟨A,r,rfl,h3,h4⟩:=dx F;obtain ⟨w,rfl,h5⟩:=iP h4;obtain ⟨I,c7⟩:=eC I;obtain ⟨h5,Sn⟩:=eC h5;have hb:=(zC l).blk (e:=e) (d:=d) (rest:=rest) ho h3 I c7 h5 Sn
 have he:u::(A++[w])++rest=u::(A++w::rest):=by simp
 rw [he]
 have key:∀ {x:Rd T},Es e (.block d) (u::(A++w::rest)) x->block e d (u::(A++w::rest))=x:=by
  rintro x ⟨f0,h0⟩;have cj:rs e (nr (u::(A++w::rest))) (.block d) (u::(A++w::rest))≠.error bb:=w7;have:=UF cj (Nat.le_add_left _ f0);rw [h0 _ aq] at this;exact this.symm
 exact ⟨fun h=>by obtain ⟨t,k1,k2⟩:=hb.1 h;exact ⟨t,k1,key k2⟩,fun h=>by obtain ⟨pos,k1⟩:=hb.2 h;exact ⟨pos,key k1⟩⟩
end Go.Xp
namespace Go.Xp
open Go.Sp (bx fa du b8 bU own nz im bt)
def Ac (n:Int):Int:=if n % 4294967296 > 2147483647 then n % 4294967296 - 4294967296 else n % 4294967296
def eI (n:Nat):ah:=if h:n < 10 then [UInt8.ofNat (48+n)] else eI (n / 10)++[UInt8.ofNat (48+n % 10)]
termination_by n
decreasing_by omega
theorem A4 (n:Nat):(eI n).length<=n+1:=by
 induction n using Nat.strongRecOn with
 | _ n ih =>
 unfold eI
 by_cases h:n < 10
 ·rw [dif_pos h];simp
 ·rw [dif_neg h,aZ];have:=ih (n / 10) aq;simp;omega
def bK:List ah->ah
 | []=>[]
 | x::r=>x++r.flatMap fun y=>44::32::y
theorem CT {l:List ah} (h:l≠[]) (x:ah):bK (l++[x])=(bK l++[44,32])++x:=by
 cases l with
 | nil=>exact absurd rfl h
 | cons a l=>simp [bK,List.flatMap_append]
theorem xo (l:List ah) (k:Nat):(bK (l.take k)).length<=(bK l).length:=by
 cases l with
 | nil=>simp
 | cons a l =>
  cases k with
  | zero=>simp [bK]
  | succ k =>
   simp only [take_succ_cons,bK,aZ]
   have:∀ (l:List ah) (k:Nat),((l.take k).flatMap fun y=>(44:UInt8)::32::y).length<=(l.flatMap fun y=>(44:UInt8)::32::y).length:=by
    intro l
    induction l with
    | nil=>intro k;simp
    | cons b l ih=>intro k;cases k with
     | zero=>simp
     | succ k=>simp only [take_succ_cons,flatMap_cons,aZ];have:=ih k;omega
   have:=this l k;omega
def ry (lv k:Nat) (x:ah):ah:=if lv < k then (40::x)++[41] else x
mutual
def E.bp:E->ah
 | .num n=>eI n.toNat
 | .name s=>s
 | .at_ s a=>((s++[91])++a.bp)++[93]
 | .call s l=>((s++[40])++bK (E.dc l))++[41]
 | .un s a=>(s++[32])++ry a.lv 9 a.bp
 | .bin s a b=>(((ry a.lv (ep s) a.bp++[32])++s)++[32])++ry b.lv (ep s+1) b.bp
def E.dc:List E->List ah
 | []=>[]
 | a::l=>a.bp::E.dc l
end
mutual
def E.full:E->ah
 | .num n=>eI n.toNat
 | .name s=>s
 | .at_ s a=>((s++[91])++a.full)++[93]
 | .call s l=>((s++[40])++bK (E.tB l))++[41]
 | .un s a=>((40::s)++a.full)++[41]
 | .bin s a b=>(((((40::a.full)++[32])++s)++[32])++b.full)++[41]
def E.tB:List E->List ah
 | []=>[]
 | a::l=>a.full::E.tB l
end
theorem E.RM (l:List E):E.dc l=l.map E.bp:=by
 induction l with
 | nil=>rfl
 | cons a l ih=>rw [E.dc,ih];rfl
theorem E.NM (l:List E):E.tB l=l.map E.full:=by
 induction l with
 | nil=>rfl
 | cons a l ih=>rw [E.tB,ih];rfl
def E.out (least:Bool) (a:E):ah:=if least then a.bp else a.full
mutual
def S.bp (x:E->ah):S->ah
 | .set s a=>((s++[32,61,32])++x a)++[59]
 | .put s a b=>((((s++[91])++x a)++[93,32,61,32])++x b)++[59]
 | .if1 c b=>(([105,102,32,40]++x c)++[41,32])++(S.dc x [123,32] b++[125])
 | .if2 c b b2=>(((([105,102,32,40]++x c)++[41,32])++(S.dc x [123,32] b++[125]))++[32,101,108,115,101,32])++(S.dc x [123,32] b2++[125])
 | .while_ c b=>(([119,104,105,108,101,32,40]++x c)++[41,32])++(S.dc x [123,32] b++[125])
 | .ret a=>([114,101,116,117,114,110,32]++x a)++[59]
 | .do_ a=>x a++[59]
 | .var s a=>((([118,97,114,32]++s)++[32,61,32])++x a)++[59]
def S.dc (x:E->ah):ah->List S->ah
 | acc,[]=>acc
 | acc,a::l=>S.dc x ((acc++a.bp x)++[32]) l
end
def fK (x:E->ah) (l:List S):ah:=S.dc x [123,32] l++[125]
theorem Jo (n:Nd) (l:List T):du (.mk n l)=(b8 l&&bU (.mk n l)):=by rw [du]
theorem vd {l:List T} (h:b8 l=true) {t:T} (ht:t∈l):du t=true:=by
 induction l with
 | nil=>cases ht
 | cons a l ih =>
  rw [b8,aE] at h
  rcases ei ht with rfl | ht
  ·exact h.1
  ·exact ih h.2 ht
theorem mW (n:Nd) (l:List T):er (.mk n l)=.mk ⟨n.kind,0,n.n,n.s,[]⟩ (aQ l):=by rw [er]
theorem jj {l:List T} {m i:Nat} (h:bt m i l=true):∀ (j:Nat) t,l[j]?=some t->(if i+j < m then nz t.n.kind else t.n.kind==14)=true:=by
 induction l generalizing i with
 | nil=>intro j t h;simp at h
 | cons a l ih =>
  rw [bt,aE] at h;intro j t hj
  cases j with
  | zero=>cases hj;exact h.1
  | succ j=>have:=ih h.2 j t (by simpa using hj);rw [show i+(j+1)=i+1+j by omega];exact this
theorem Gv:∀ (l:List T),(∀ t∈l,∃ a:E,a.ok=true/\er t=a.tree)->∃ es:List E,E.df es=true/\aQ l=E.trees es
 | [],_=>⟨[],rfl,rfl⟩
 | t::l,h=>by
  obtain ⟨a,I,F⟩:=h t (mem_cons_self);obtain ⟨es,h3,h4⟩:=Gv l (fun t ht=>h t (cV _ ht));exact ⟨a::es,by simp [E.df,I,h3],by rw [aQ,E.trees,F,h4]⟩
theorem toE:∀ (sz:Nat) (t:T),sizeOf t<=sz->du t=true->nz t.n.kind=true->∃ a:E,a.ok=true/\er t=a.tree:=by
 intro sz
 induction sz with
 | zero=>intro t h;cases t;simp at h
 | succ sz ih =>
  intro t cB ha hk;obtain ⟨n,l⟩:=t;rw [Jo,aE] at ha;obtain ⟨ha,ho⟩:=ha
  have qU:∀ t∈l,nz t.n.kind=true->∃ a:E,a.ok=true/\er t=a.tree:=fun t ht hk=>by
   have:=List.sizeOf_lt_of_mem ht;exact ih t (by simp at cB;omega) (vd ha ht) hk
  obtain ⟨k,at_,v,s,ks⟩:=n
  have hk:(1:Int)<=k/\k<=6:=by
   simp only [nz,T.n,aE] at hk;exact ⟨lS hk.1,lS hk.2⟩
  simp only [bU,own,T.n,T.kids] at ho
  obtain rfl | rfl | rfl | rfl | rfl | rfl:k=1\/k=2\/k=3\/k=4\/k=5\/k=6:=by omega
  ·simp at ho;obtain ⟨I,F,h3,h4,h5⟩:=ho;subst h4 h5;exact ⟨.num v,by simp only [E.ok,aE];exact ⟨F,h3⟩,by rw [mW,E.tree];rfl⟩
  ·simp at ho;obtain ⟨I,F,h3,h4⟩:=ho;subst F h4;exact ⟨.name s,by simp [E.ok,h3],by rw [mW,E.tree];rfl⟩
  ·simp at ho;obtain ⟨I,F,h3,h4,h5⟩:=ho;subst F
   match l,h4 with
   | [t],_ =>
    have x7:=jj h5 0 t rfl;obtain ⟨a,h6,h7⟩:=qU t (by simp) (by simpa using x7);exact ⟨.at_ s a,by simp [E.ok,h3,h6],by rw [mW,E.tree,aQ,h7];rfl⟩
  ·simp at ho;obtain ⟨I,F,h3,h5⟩:=ho;subst F
   obtain ⟨es,h6,h7⟩:=Gv l fun t ht=>qU t ht (by
    obtain ⟨j,hj⟩:=List.mem_iff_getElem?.1 ht;have ar:=(bh hj).1;have:=jj h5 j t hj
    rw [ae aq] at this;exact this)
   exact ⟨.call s es,by simp [E.ok,h3,h6],by rw [mW,E.tree,h7]⟩
  ·simp at ho;obtain ⟨I,F,h3,h4,h5⟩:=ho;subst F
   match l,h4 with
   | [t],_ =>
    have x7:=jj h5 0 t rfl;obtain ⟨a,h6,h7⟩:=qU t (by simp) (by simpa using x7);exact ⟨.un s a,by simp only [E.ok,h6,Bool.and_true,Bool.or_eq_true,beq_iff_eq];exact h3,by rw [mW,E.tree,aQ,h7];rfl⟩
  ·simp at ho;obtain ⟨I,F,h3,h4,h5⟩:=ho;subst F
   match l,h4 with
   | [t,u],_ =>
    have x7:=jj h5 0 t rfl;have hku:=jj h5 1 u rfl;obtain ⟨a,h6,h7⟩:=qU t (by simp) (by simpa using x7);obtain ⟨b,h8,h9⟩:=qU u (by simp) (by simpa using hku);exact ⟨.bin s a b,by simp [E.ok,h3,h6,h8],by rw [mW,E.tree,aQ,aQ,h7,h9];rfl⟩
theorem Ic:∀ (l:List T),(∀ t∈l,∃ a:S,a.ok=true/\er t=a.tree)->∃ es:List S,S.df es=true/\aQ l=S.trees es
 | [],_=>⟨[],rfl,rfl⟩
 | t::l,h=>by
  obtain ⟨a,I,F⟩:=h t (mem_cons_self);obtain ⟨es,h3,h4⟩:=Ic l (fun t ht=>h t (cV _ ht));exact ⟨a::es,by simp [S.df,I,h3],by rw [aQ,S.trees,F,h4]⟩
theorem toS:∀ (sz:Nat) (t:T),sizeOf t<=sz->du t=true->(im t.n.kind=true->∃ a:S,a.ok=true/\er t=a.tree)/\(t.n.kind=14->∃ l:List S,S.df l=true/\er t=bO l):=by
 intro sz
 induction sz with
 | zero=>intro t h;cases t;simp at h
 | succ sz ih =>
  intro t cB ha;obtain ⟨n,l⟩:=t;rw [Jo,aE] at ha;obtain ⟨ha,ho⟩:=ha
  have hex:∀ t∈l,nz t.n.kind=true->∃ a:E,a.ok=true/\er t=a.tree:=fun t ht hk=>toE _ t (aH _) (vd ha ht) hk
  have eA:∀ t∈l,t.n.kind=14->∃ l:List S,S.df l=true/\er t=bO l:=fun t ht hk=>by
   have:=List.sizeOf_lt_of_mem ht;exact (ih t (by simp at cB;omega) (vd ha ht)).2 hk
  have bI:∀ t∈l,im t.n.kind=true->∃ a:S,a.ok=true/\er t=a.tree:=fun t ht hk=>by
   have:=List.sizeOf_lt_of_mem ht;exact (ih t (by simp at cB;omega) (vd ha ht)).1 hk
  obtain ⟨k,at_,v,s,ks⟩:=n;simp only [bU,own,T.n,T.kids] at ho;refine ⟨fun hk=>?_,fun hk=>?_⟩
  ·have hk:(7:Int)<=k/\k<=13:=by
    simp only [im,T.n,aE] at hk;exact ⟨lS hk.1,lS hk.2⟩
   obtain rfl | rfl | rfl | rfl | rfl | rfl | rfl:k=7\/k=8\/k=9\/k=10\/k=11\/k=12\/k=13:=by omega
   ·simp at ho;obtain ⟨I,F,h3,h4,h5⟩:=ho;subst F
    match l,h4 with
    | [t],_ =>
     obtain ⟨a,h6,h7⟩:=hex t (by simp) (by simpa using jj h5 0 t rfl);exact ⟨.set s a,by simp [S.ok,h3,h6],by rw [mW,S.tree,aQ,h7];rfl⟩
   ·simp at ho;obtain ⟨I,F,h3,h4,h5⟩:=ho;subst F
    match l,h4 with
    | [t,u],_ =>
     obtain ⟨a,h6,h7⟩:=hex t (by simp) (by simpa using jj h5 0 t rfl);obtain ⟨b,h8,h9⟩:=hex u (by simp) (by simpa using jj h5 1 u rfl);exact ⟨.put s a b,by simp [S.ok,h3,h6,h8],by rw [mW,S.tree,aQ,aQ,h7,h9];rfl⟩
   ·simp at ho;obtain ⟨I,F,h3,h4,h5⟩:=ho;subst F h3
    rcases h4 with h4 | h4
    ·match l,h4 with
     | [t,u],_ =>
      obtain ⟨a,h6,h7⟩:=hex t (by simp) (by simpa using jj h5 0 t rfl);obtain ⟨b,h8,h9⟩:=eA u (by simp) (by simpa using jj h5 1 u rfl);exact ⟨.if1 a b,by simp [S.ok,h6,h8],by rw [mW,S.tree,aQ,aQ,h7,h9];rfl⟩
    ·match l,h4 with
     | [t,u,w],_ =>
      obtain ⟨a,h6,h7⟩:=hex t (by simp) (by simpa using jj h5 0 t rfl);obtain ⟨b,h8,h9⟩:=eA u (by simp) (by simpa using jj h5 1 u rfl);obtain ⟨c,ma,pE⟩:=eA w (by simp) (by simpa using jj h5 2 w rfl);exact ⟨.if2 a b c,by simp [S.ok,h6,h8,ma],by rw [mW,S.tree,aQ,aQ,aQ,h7,h9,pE];rfl⟩
   ·simp at ho;obtain ⟨I,F,h3,h4,h5⟩:=ho;subst F h3
    match l,h4 with
    | [t,u],_ =>
     obtain ⟨a,h6,h7⟩:=hex t (by simp) (by simpa using jj h5 0 t rfl);obtain ⟨b,h8,h9⟩:=eA u (by simp) (by simpa using jj h5 1 u rfl);exact ⟨.while_ a b,by simp [S.ok,h6,h8],by rw [mW,S.tree,aQ,aQ,h7,h9];rfl⟩
   ·simp at ho;obtain ⟨I,F,h3,h4,h5⟩:=ho;subst F h3
    match l,h4 with
    | [t],_ =>
     obtain ⟨a,h6,h7⟩:=hex t (by simp) (by simpa using jj h5 0 t rfl);exact ⟨.ret a,by simp [S.ok,h6],by rw [mW,S.tree,aQ,h7];rfl⟩
   ·simp at ho;obtain ⟨I,F,h3,h4,h5⟩:=ho;subst F h3
    match l,h4 with
    | [t],_ =>
     obtain ⟨a,h6,h7⟩:=hex t (by simp) (by simpa using jj h5 0 t rfl);exact ⟨.do_ a,by simp [S.ok,h6],by rw [mW,S.tree,aQ,h7];rfl⟩
   ·simp at ho;obtain ⟨I,F,h3,h4,h5⟩:=ho;subst F
    match l,h4 with
    | [t],_ =>
     obtain ⟨a,h6,h7⟩:=hex t (by simp) (by simpa using jj h5 0 t rfl);exact ⟨.var s a,by simp [S.ok,h3,h6],by rw [mW,S.tree,aQ,h7];rfl⟩
  ·simp only [T.n] at hk;subst hk;simp at ho;obtain ⟨I,F,h3,h4⟩:=ho;subst F h4
   obtain ⟨es,h5,h6⟩:=Ic l fun t ht=>bI t ht (h3 t ht)
   exact ⟨es,h5,by rw [mW,bO,h6]⟩
theorem toB {t:T} (h:du t=true) (hk:t.n.kind=14):∃ l:List S,S.df l=true/\er t=bO l:=(toS _ t (aH _) h).2 hk
mutual
def wt:T->Nat
 | .mk n l=>30+n.s.length+fp l
def fp:List T->Nat
 | []=>0
 | t::l=>wt t+fp l
end
mutual
theorem Tr:∀ t:T,wt (er t)=wt t
 | .mk n l=>by rw [er,wt,wt,KZ l]
theorem KZ:∀ l:List T,fp (aQ l)=fp l
 | []=>rfl
 | t::l=>by rw [aQ,fp,fp,Tr t,KZ l]
end
theorem JB:∀ (k n:Nat),n < 10 ^ (k+1)->(eI n).length<=k+1:=by
 intro k
 induction k with
 | zero=>intro n h;unfold eI;rw [dif_pos aq];simp
 | succ k ih =>
  intro n h;unfold eI;split
  ·simp
  ·rw [aZ];have:=ih (n / 10) (by rw [Nat.pow_succ] at h;omega);simp;omega
theorem tL (lv k:Nat) (x:ah):(ry lv k x).length<=x.length+2:=by unfold ry;split <;> simp
mutual
theorem E.len:∀ a:E,a.ok=true->a.bp.length+4<=wt a.tree/\a.full.length+4<=wt a.tree
 | .num n,h=>by
  simp only [E.ok,aE] at h;have I:=lS h.1;have F:=lS h.2;have:=JB 9 n.toNat aq;rw [E.bp,E.full,E.tree,wt];simp only [length_nil,fp];omega
 | .name s,h=>by rw [E.bp,E.full,E.tree,wt];simp only [fp];omega
 | .at_ s a,h=>by
  simp only [E.ok,aE] at h;have:=E.len a h.2;rw [E.bp,E.full,E.tree,wt];simp only [fp,aZ,length_cons,length_nil];omega
 | .call s l,h=>by
  simp only [E.ok,aE] at h;have:=E.lens l h.2;rw [E.bp,E.full,E.tree,wt];simp only [aZ,length_cons,length_nil];omega
 | .un s a,h=>by
  simp only [E.ok,aE] at h;have:=E.len a h.2;have:=tL a.lv 9 a.bp;rw [E.bp,E.full,E.tree,wt];simp only [fp,aZ,length_cons,length_nil];omega
 | .bin s a b,h=>by
  simp only [E.ok,aE] at h;have:=E.len a h.1.2;have:=E.len b h.2;have:=tL a.lv (ep s) a.bp;have:=tL b.lv (ep s+1) b.bp;rw [E.bp,E.full,E.tree,wt];simp only [fp,aZ,length_cons,length_nil];omega
theorem E.lens:∀ l:List E,E.df l=true->(bK (E.dc l)).length<=fp (E.trees l)/\(bK (E.tB l)).length<=fp (E.trees l)
 | [],_=>⟨aX _,aX _⟩
 | a::l,h=>by
  simp only [E.df,aE] at h;have I:=E.len a h.1;have F:=E.lens l h.2;rw [E.dc,E.tB,E.trees,fp]
  have key:∀ (x:ah) (l:List ah),(bK (x::l)).length<=x.length+2+(bK l).length:=by
   intro x l
   cases l with
   | nil=>simp [bK]
   | cons y l=>simp [bK];omega
  have:=key a.bp (E.dc l);have:=key a.full (E.tB l);omega
end
mutual
theorem S.len (x:E->ah) (hx:∀ a:E,a.ok=true->(x a).length+4<=wt a.tree):∀ s:S,s.ok=true->(s.bp x).length+4<=wt s.tree
 | .set s a,h=>by
  simp only [S.ok,aE] at h;have:=hx a h.2;rw [S.bp,S.tree,wt];simp only [fp,aZ,length_cons,length_nil];omega
 | .put s a b,h=>by
  simp only [S.ok,aE] at h;have:=hx a h.2.1;have:=hx b h.2.2;rw [S.bp,S.tree,wt];simp only [fp,aZ,length_cons,length_nil];omega
 | .if1 c b,h=>by
  simp only [S.ok,aE] at h;have:=hx c h.1;have:=S.lens x hx b h.2 [123,32];rw [S.bp,S.tree,wt];simp only [fp,wt,aZ,length_cons,length_nil] at *;omega
 | .if2 c b b2,h=>by
  simp only [S.ok,aE] at h;have:=hx c h.1;have:=S.lens x hx b h.2.1 [123,32];have:=S.lens x hx b2 h.2.2 [123,32];rw [S.bp,S.tree,wt];simp only [fp,wt,aZ,length_cons,length_nil] at *;omega
 | .while_ c b,h=>by
  simp only [S.ok,aE] at h;have:=hx c h.1;have:=S.lens x hx b h.2 [123,32];rw [S.bp,S.tree,wt];simp only [fp,wt,aZ,length_cons,length_nil] at *;omega
 | .ret a,h=>by
  simp only [S.ok] at h;have:=hx a h;rw [S.bp,S.tree,wt];simp only [fp,aZ,length_cons,length_nil];omega
 | .do_ a,h=>by
  simp only [S.ok] at h;have:=hx a h;rw [S.bp,S.tree,wt];simp only [fp,aZ,length_cons,length_nil];omega
 | .var s a,h=>by
  simp only [S.ok,aE] at h;have:=hx a h.2;rw [S.bp,S.tree,wt];simp only [fp,aZ,length_cons,length_nil];omega
theorem S.lens (x:E->ah) (hx:∀ a:E,a.ok=true->(x a).length+4<=wt a.tree):∀ l:List S,S.df l=true->∀ acc:ah,(S.dc x acc l).length<=acc.length+fp (S.trees l)
 | [],_,acc=>by rw [S.dc];omega
 | a::l,h,acc=>by
  simp only [S.df,aE] at h;have I:=S.len x hx a h.1;have F:=S.lens x hx l h.2 ((acc++a.bp x)++[32]);rw [S.dc,S.trees,fp];simp only [aZ,length_cons,length_nil] at F;omega
end
theorem tK (x:E->ah) (hx:∀ a:E,a.ok=true->(x a).length+4<=wt a.tree) {l:List S} (h:S.df l=true):(fK x l).length<=wt (bO l):=by
 have:=S.lens x hx l h [123,32];unfold fK bO;rw [wt];simp only [aZ,length_cons,length_nil] at *;omega
end Go.Xp
namespace Go.Im
open Go.Xp Go.Sp
def rp (g:Nat->Option (T × Nat)):List Int->Nat->List T->Option (List T × Nat)
 | [],next,acc=>some (acc,next)
 | k::r,next,acc=>if k=(next:Int) then match g next with
  | none=>none
  | some (t,e)=>rp g r e (acc++[t])
  else none
def pP (nodes:List Nd):Nat->Nat->Option (T × Nat)
 | 0,_=>none
 | f+1,a=>match nodes[a]? with
  | none=>none
  | some n=>match rp (pP nodes f) n.kids (a+1) [] with
   | none=>none
   | some (l,e)=>if n.at_ < 0 then none else some (.mk n l,e)
def tr (nodes:List Nd) (a:Nat):Option (T × Nat):=pP nodes (nodes.length+1) a
theorem Is {nodes:List Nd} {g:Nat->Option (T × Nat)} (hg:∀ a t e,g a=some (t,e)->a < e/\e<=nodes.length/\e=a+aO t/\(nodes.take e).drop a=mH a t) :
  ∀ (ks:List Int) (next:Nat) (acc l:List T) (e:Nat),next<=nodes.length->rp g ks next acc=some (l,e)->∃ l',l=acc++l'/\e=next+aC l'/\e<=nodes.length/\ks=b9 next l'/\(nodes.take e).drop next=eK next l'
 | [],next,acc,l,e,hn,h=>by
  rw [rp] at h;cases h;exact ⟨[],by simp,by simp [aC],hn,rfl,by rw [eK];exact gQ (by rw [iM,fV];omega)⟩
 | k::r,next,acc,l,e,hn,h=>by
  rw [rp] at h;split at h
  ·rename_i hk
   cases hq:g next with
   | none=>rw [hq] at h;cases h
   | some x =>
    obtain ⟨t,e1⟩:=x;rw [hq] at h;simp only at h;obtain ⟨a1,a2,a3,a4⟩:=hg _ _ _ hq;obtain ⟨l',b1,b2,b3,b4,b5⟩:=Is hg r e1 (acc++[t]) l e a2 h;refine ⟨t::l',by rw [b1];simp,by rw [aC];omega,b3,by rw [b9,<-a3,<-b4,hk],?_⟩;rw [eK,<-a3,<-a4,<-b5]
    have he:e1<=e:=by omega
    have I:(nodes.take e).take e1=nodes.take e1:=by rw [List.take_take,Nat.min_eq_left he]
    have F:(nodes.take e).drop next=((nodes.take e).take e1).drop next++(nodes.take e).drop e1:=by
     have h3:nodes.take e=(nodes.take e).take e1++(nodes.take e).drop e1:=(take_append_drop _ _).symm
     have h4:((nodes.take e).take e1).length=e1:=by rw [fV,fV];omega
     rw [h3,List.drop_append_of_le_length (by rw [h4];omega)];rw [<-h3]
    rw [F,I]
  ·cases h
theorem B7 {nodes:List Nd}:∀ (f a:Nat) (t:T) (e:Nat),pP nodes f a=some (t,e)->a < e/\e<=nodes.length/\e=a+aO t/\(nodes.take e).drop a=mH a t
 | 0,a,t,e,h=>by cases h
 | f+1,a,t,e,h=>by
  rw [pP] at h
  cases hn:nodes[a]? with
  | none=>rw [hn] at h;cases h
  | some n =>
   rw [hn] at h;simp only at h;have ar:=(bh hn).1
   cases hk:rp (pP nodes f) n.kids (a+1) [] with
   | none=>rw [hk] at h;cases h
   | some x =>
    obtain ⟨l,e1⟩:=x;rw [hk] at h;simp only at h;split at h
    ·cases h
    ·cases h;obtain ⟨l',b1,b2,b3,b4,b5⟩:=Is (B7 f) n.kids (a+1) [] l e ar hk
     have:l'=l:=by rw [b1];rfl
     subst this;refine ⟨by omega,b3,by rw [aO];omega,?_⟩;rw [mH,<-b4,<-b5]
     have I:(nodes.take e)[a]?=some n:=by rw [getElem?_take,ae aq];exact hn
     obtain ⟨F,h3⟩:=bh I;rw [nl F,h3]
def jE (nodes:List Nd):List Fn->Nat->List T->Option (List T × Nat)
 | [],next,acc=>some (acc,next)
 | f::r,next,acc=>match tr nodes next with
  | none=>none
  | some (t,e)=>if f.body=(next:Int) then jE nodes r e (acc++[t]) else none
def cY (k:Int) (n:Nat):Bool :=
 if k=1\/k=2 then ((n:Int)==0)
 else if k=4\/k=14 then true
 else if k=3\/k=5\/k=7\/k=11\/k=12\/k=13 then ((n:Int)==1)
 else if k=6\/k=8\/k=10 then ((n:Int)==2)
 else if k=9 then ((n:Int)==2) || ((n:Int)==3)
 else false
mutual
def fo:T->Bool
 | .mk n l=>cY n.kind l.length&&qW l
def qW:List T->Bool
 | []=>true
 | t::r=>fo t&&qW r
end
theorem yW (t:T):fo t=(cY t.n.kind t.kids.length&&qW t.kids):=by cases t;rw [fo];rfl
theorem qf (l:List T):qW l=l.all fo:=by
 induction l with
 | nil=>rfl
 | cons t l ih=>rw [qW,ih];rfl
mutual
def dV (nodes:List Nd):Nat->T->Prop
 | a,.mk n l=>nodes[a]?=some n/\n.kids=b9 (a+1) l/\dD nodes (a+1) l
def dD (nodes:List Nd):Nat->List T->Prop
 | _,[]=>True
 | a,t::r=>dV nodes a t/\dD nodes (a+aO t) r
end
mutual
def yi:T->Prop
 | .mk n l=>0<=n.at_/\mV l
def mV:List T->Prop
 | []=>True
 | t::r=>yi t/\mV r
end
theorem jq (t:T):1<=aO t:=by rw [eO];omega
mutual
theorem dV.le {nodes:List Nd}:∀ (t:T) (a:Nat),dV nodes a t->a+aO t<=nodes.length
 | .mk n l,a,h=>by
  rw [dV] at h;have I:=(bh h.1).1;have:=dD.le l (a+1) h.2.2 I;rw [aO];omega
theorem dD.le {nodes:List Nd}:∀ (l:List T) (a:Nat),dD nodes a l->a<=nodes.length->a+aC l<=nodes.length
 | [],a,h,ha=>by rw [aC];exact ha
 | t::r,a,h,ha=>by
  rw [dD] at h;have I:=dV.le t a h.1;have:=dD.le r _ h.2 I;rw [aC];omega
end
theorem JF {nodes:List Nd}:∀ (f:Nat),(∀ (a d:Nat) (e:Int),pj nodes f a d=some e->0<=e->∃ t,dV nodes a t/\e=((a+aO t:Nat):Int)) /\
  (∀ (ks:List Int) (next d:Nat) (e:Int),oa nodes f ks (next:Int) d=some e->0<=e->∃ l,dD nodes next l/\ks=b9 next l/\e=((next+aC l:Nat):Int)):=by
 intro f
 induction f with
 | zero =>
  refine ⟨fun a d e h _=>by simp [pj] at h,fun ks next d e h _=>?_⟩
  cases ks with
  | nil=>rw [oa] at h;cases h;exact ⟨[],trivial,rfl,by simp [aC]⟩
  | cons k r=>simp [oa] at h
 | succ f ih =>
  refine ⟨fun a d e h he=>?_,fun ks next d e h he=>?_⟩
  ·rw [pj] at h;split at h
   ·cases h;omega
   ·cases hn:nodes[a]? with
    | none=>rw [hn] at h;cases h
    | some n =>
     rw [hn] at h;simp only at h;rw [show ((a:Int)+1)=((a+1:Nat):Int) by omega] at h;obtain ⟨l,I,F,h3⟩:=ih.2 _ _ _ _ h he;exact ⟨.mk n l,by rw [dV];exact ⟨hn,F,I⟩,by rw [h3,aO];omega⟩
  ·cases ks with
   | nil=>rw [oa] at h;cases h;exact ⟨[],trivial,rfl,by simp [aC]⟩
   | cons k r =>
    rw [oa] at h;split at h
    ·rename_i hk;subst hk;rw [gA] at h
     cases hq:pj nodes f next (d+1) with
     | none=>rw [hq] at h;cases h
     | some e1 =>
      rw [hq] at h;simp only at h;split at h
      ·cases h;omega
      ·rename_i h0;obtain ⟨t,I,F⟩:=ih.1 _ _ _ hq aq;subst F;obtain ⟨l,h3,h4,h5⟩:=ih.2 _ _ _ _ h he;refine ⟨t::l,by rw [dD];exact ⟨I,h3⟩,by rw [b9,<-h4],by rw [h5,aC];omega⟩
    ·cases h;omega
theorem uX {nodes:List Nd}:∀ (f:Nat),(∀ (t:T) (a:Nat),dV nodes a t->2 * aO t<=f->sub nodes f a=some t) /\
  (∀ (l:List T) (a:Nat) (acc:List T),dD nodes a l->2 * aC l+1<=f->px nodes f (b9 a l) acc=some (acc++l)):=by
 intro f
 induction f with
 | zero =>
  exact ⟨fun t a _ h=>by have:=jq t;omega,fun l a acc _ h=>by omega⟩
 | succ f ih =>
  refine ⟨fun t a hs h=>?_,fun l a acc hs h=>?_⟩
  ·obtain ⟨n,l⟩:=t;rw [dV] at hs;rw [aO] at h;rw [sub,hs.1];simp only;rw [hs.2.1,ih.2 l (a+1) [] hs.2.2 aq];rfl
  ·cases l with
   | nil=>rw [b9,px];simp
   | cons t l =>
    rw [dD] at hs;rw [aC] at h;have:=jq t;rw [b9,px,ab aq,gA,ih.1 t a hs.1 aq];simp only;rw [ih.2 l _ _ hs.2 aq];simp
theorem Xh {nodes:List Nd}:∀ (f:Nat) (t:T) (a:Nat),dV nodes a t->yi t->aO t<=f->pP nodes f a=some (t,a+aO t):=by
 intro f
 induction f with
 | zero=>intro t a _ _ h;have:=jq t;omega
 | succ f ih =>
  intro t a hs ha h;obtain ⟨n,l⟩:=t
  have key:∀ (l:List T) (a:Nat) (acc:List T),dD nodes a l->mV l->aC l<=f->rp (pP nodes f) (b9 a l) a acc=some (acc++l,a+aC l):=by
   intro l
   induction l with
   | nil=>intro a acc _ _ _;rw [b9,rp,aC];simp
   | cons t l ih2 =>
    intro a acc hs ha h;rw [dD] at hs;rw [mV] at ha;rw [aC] at h;rw [b9,rp,ae rfl,ih t a hs.1 ha.1 aq];simp only;rw [ih2 _ _ hs.2 ha.2 aq,aC];simp [gW]
  rw [dV] at hs;rw [yi] at ha;rw [aO] at h;rw [pP,hs.1];simp only;rw [hs.2.1,key l (a+1) [] hs.2.2 ha.2 aq];simp only;rw [ab aq,aO];simp only [nil_append,Option.some.injEq,Prod.mk.injEq,true_and];omega
theorem W8 {nodes:List Nd}:∀ (f:Nat) (t:T) (a e:Nat),pP nodes f a=some (t,e)->dV nodes a t/\e=a+aO t/\yi t:=by
 intro f
 induction f with
 | zero=>intro t a e h;cases h
 | succ f ih =>
  intro t a e h
  have key:∀ (ks:List Int) (next:Nat) (acc l:List T) (e:Nat),rp (pP nodes f) ks next acc=some (l,e)->∃ l',l=acc++l'/\dD nodes next l'/\ks=b9 next l'/\e=next+aC l'/\mV l':=by
   intro ks
   induction ks with
   | nil=>intro next acc l e h;rw [rp] at h;cases h;exact ⟨[],by simp,trivial,rfl,by simp [aC],trivial⟩
   | cons k r ih2 =>
    intro next acc l e h
    rw [rp] at h;split at h
    ·rename_i hk
     cases hq:pP nodes f next with
     | none=>rw [hq] at h;cases h
     | some x =>
      obtain ⟨t,e1⟩:=x;rw [hq] at h;simp only at h;obtain ⟨a1,a2,a3⟩:=ih _ _ _ hq;subst a2;obtain ⟨l',b1,b2,b3,b4,b5⟩:=ih2 _ _ _ _ h;exact ⟨t::l',by rw [b1];simp,by rw [dD];exact ⟨a1,b2⟩,by rw [b9,hk,b3],by rw [b4,aC];omega,by rw [mV];exact ⟨a3,b5⟩⟩
    ·cases h
  rw [pP] at h
  cases hn:nodes[a]? with
  | none=>rw [hn] at h;cases h
  | some n =>
   rw [hn] at h;simp only at h
   cases hk:rp (pP nodes f) n.kids (a+1) [] with
   | none=>rw [hk] at h;cases h
   | some x =>
    obtain ⟨l,e1⟩:=x;rw [hk] at h;simp only at h;split at h
    ·cases h
    ·rename_i h0;cases h;obtain ⟨l',b1,b2,b3,b4,b5⟩:=key _ _ _ _ _ hk
     have:l'=l:=by rw [b1];rfl
     subst this;exact ⟨by rw [dV];exact ⟨hn,b3,b2⟩,by rw [b4,aO];omega,by rw [yi];exact ⟨by omega,b5⟩⟩
theorem TO {nodes:List Nd} (hl:nodes.length<=800):∀ (f:Nat),(∀ (t:T) (a d:Nat),dV nodes a t->d<=a->2 * aO t<=f->pj nodes f a d=some ((a+aO t:Nat):Int)) /\
  (∀ (l:List T) (a d:Nat),dD nodes a l->d < a->2 * aC l+1<=f->oa nodes f (b9 a l) (a:Int) d=some ((a+aC l:Nat):Int)):=by
 intro f
 induction f with
 | zero =>
  exact ⟨fun t a d _ _ h=>by have:=jq t;omega,fun l a d _ _ h=>by omega⟩
 | succ f ih =>
  refine ⟨fun t a d hs hd h=>?_,fun l a d hs hd h=>?_⟩
  ·obtain ⟨n,l⟩:=t;rw [dV] at hs;rw [aO] at h |-;have ar:=(bh hs.1).1;rw [pj,ab aq,hs.1];simp only;rw [show ((a:Int)+1)=((a+1:Nat):Int) by omega,hs.2.1,ih.2 l (a+1) d hs.2.2 aq aq]
   congr 1;omega
  ·cases l with
   | nil=>rw [b9,oa,aC];simp
   | cons t l =>
    rw [dD] at hs;rw [aC] at h |-;have:=jq t;rw [b9,oa,ae rfl,gA,ih.1 t a (d+1) hs.1 aq aq];simp only;rw [ab aq,ih.2 l _ d hs.2 aq aq]
    congr 1;omega
theorem Nq {nodes:List Nd}:∀ (f:Nat),(∀ (a d:Nat),2 * (nodes.length - a)+1<=f->∃ e,pj nodes f a d=some e/\(0<=e->(a:Int) < e/\a < nodes.length)) /\
  (∀ (ks:List Int) (next d:Nat),2 * (nodes.length - next)+2<=f->∃ e,oa nodes f ks (next:Int) d=some e/\(0<=e->(next:Int)<=e)):=by
 intro f
 induction f with
 | zero=>exact ⟨fun a d h=>by omega,fun ks next d h=>by omega⟩
 | succ f ih =>
  refine ⟨fun a d h=>?_,fun ks next d h=>?_⟩
  ·rw [pj];split
   ·exact ⟨-1,rfl,fun h=>by omega⟩
   ·rename_i hc
    cases hn:nodes[a]? with
    | none=>rw [List.getElem?_eq_none_iff] at hn;omega
    | some n =>
     simp only;rw [show ((a:Int)+1)=((a+1:Nat):Int) by omega];obtain ⟨e,I,F⟩:=ih.2 n.kids (a+1) d aq;exact ⟨e,I,fun h=>⟨by have:=F h;omega,by omega⟩⟩
  ·cases ks with
   | nil=>rw [oa];exact ⟨_,rfl,fun _=>Int.le_refl _⟩
   | cons k r =>
    rw [oa];split
    ·rename_i hk;subst hk;rw [gA]
     obtain ⟨e,I,F⟩:=ih.1 next (d+1) aq
     rw [I];simp only;split
     ·exact ⟨-1,rfl,fun h=>by omega⟩
     ·rename_i h0;have h3:=F aq;obtain ⟨m,rfl⟩:∃ m:Nat,e=(m:Int):=⟨e.toNat,by omega⟩;obtain ⟨e',h4,h5⟩:=ih.2 r m d aq;exact ⟨e',h4,fun h=>by have:=h5 h;omega⟩
    ·exact ⟨-1,rfl,fun h=>by omega⟩
def gB (Q:Fn->T->Prop):List Fn->Nat->List T->Prop
 | [],_,[]=>True
 | f::r,a,t::l=>f.body=(a:Int)/\Q f t/\gB Q r (a+aO t) l
 | _,_,_=>False
theorem gB.len {Q:Fn->T->Prop}:∀ {fns:List Fn} {a:Nat} {l:List T},gB Q fns a l->fns.length=l.length
 | [],_,[],_=>rfl
 | f::r,a,t::l,h=>by rw [gB] at h;rw [length_cons,length_cons,gB.len h.2.2]
 | [],_,t::l,h=>by cases h
 | f::r,_,[],h=>by cases h
theorem gB.mono {Q R:Fn->T->Prop}:∀ {fns:List Fn} {a:Nat} {l:List T},gB Q fns a l->(∀ f t,f∈fns->t∈l->Q f t->R f t)->gB R fns a l
 | [],_,[],_,_=>trivial
 | f::r,a,t::l,h,hq=>by
  rw [gB] at h |-;exact ⟨h.1,hq _ _ mem_cons_self mem_cons_self h.2.1,gB.mono h.2.2 fun f t hf ht=>hq f t (cV _ hf) (cV _ ht)⟩
 | [],_,t::l,h,_=>by cases h
 | f::r,_,[],h,_=>by cases h
theorem gB.at_ {Q:Fn->T->Prop}:∀ {fns:List Fn} {a:Nat} {l:List T},gB Q fns a l->∀ (i:Nat) f t,fns[i]?=some f->l[i]?=some t->f.body=((a+aC (l.take i):Nat):Int)/\Q f t
 | [],_,[],_,i,f,t,I,F=>by simp at I
 | f::r,a,t::l,h,i,f',t',I,F=>by
  rw [gB] at h
  cases i with
  | zero=>cases I;cases F;rw [take_zero,aC];exact ⟨h.1,h.2.1⟩
  | succ i =>
   obtain ⟨k1,k2⟩:=gB.at_ h.2.2 i f' t' (by simpa using I) (by simpa using F);exact ⟨by rw [k1,take_succ_cons,aC];omega,k2⟩
 | [],_,t::l,h,_,_,_,_,_=>by cases h
 | f::r,_,[],h,_,_,_,_,_=>by cases h
structure P1 (f:Fn) (t:T):Prop where
 name:bx f.name=true
 params:cH f.params=true
 kind:t.n.kind=14
 all:du t=true
theorem Ax {nodes:List Nd}:∀ (fns:List Fn) (next:Nat) (e:Int),gY nodes fns (next:Int)=some (some e)->∃ l,dD nodes next l/\gB P1 fns next l/\e=((next+aC l:Nat):Int)
 | [],next,e,h=>by rw [gY] at h;cases h;exact ⟨[],trivial,trivial,by simp [aC]⟩
 | f::r,next,e,h=>by
  rw [gY,gA] at h
  cases hn:pj nodes (fN nodes) next 0 with
  | none=>rw [hn] at h;cases h
  | some e1 =>
   rw [hn] at h;simp only at h;split at h
   ·cases h
   ·rename_i hc;split at h
    ·cases h
    ·rename_i hp;obtain ⟨t,I,F⟩:=(JF _).1 _ _ _ hn aq;have hle:=dV.le t _ I;rw [(uX _).1 t next I (by unfold fN;omega)] at h;simp only at h;split at h
     ·cases h
     ·rename_i hk;subst F;obtain ⟨l,k1,k2,k3⟩:=Ax r _ e h;refine ⟨t::l,by rw [dD];exact ⟨I,k1⟩,?_,by rw [k3,aC];omega⟩;rw [gB];refine ⟨by omega,⟨?_,?_,?_,?_⟩,k2⟩
      ·cases hq:bx f.name with
       | true=>rfl
       | false=>exact absurd (.inr (.inl hq)) hc
      ·simpa using hp
      ·exact Decidable.byContradiction fun hq=>hk (.inl hq)
      ·cases hq:du t with
       | true=>rfl
       | false=>exact absurd (.inr hq) hk
theorem Aw {nodes:List Nd} (hl:nodes.length<=800):∀ (fns:List Fn) (next:Nat) (l:List T),dD nodes next l->gB P1 fns next l->gY nodes fns (next:Int)=some (some ((next+aC l:Nat):Int))
 | [],next,[],_,_=>by rw [gY,aC];rfl
 | f::r,next,t::l,h,hf=>by
  rw [dD] at h;rw [gB] at hf;have hle:=dV.le t _ h.1;rw [gY,gA,(TO hl _).1 t next 0 h.1 (aX _) (by unfold fN;omega)];simp only;rw [ab (by rw [hf.2.1.name];rintro (h | h | h);exact h hf.1;cases h;omega),ab (by rw [hf.2.1.params];decide),(uX _).1 t next h.1 (by unfold fN;omega)];simp only;rw [ab (by rw [hf.2.1.all];rintro (h | h);exact h hf.2.1.kind;cases h),Aw hl r _ l h.2 hf.2.2,aC]
  congr 2;omega
 | [],_,t::l,_,h=>by cases h
 | f::r,_,[],_,h=>by cases h
theorem xW {nodes:List Nd}:∀ (fns:List Fn) (next:Nat),∃ r,gY nodes fns (next:Int)=some r
 | [],next=>⟨_,by rw [gY]⟩
 | f::r,next=>by
  obtain ⟨e,I,F⟩:=(Nq (nodes:=nodes) (fN nodes)).1 next 0 (by unfold fN;omega)
  rw [gY,gA,I];simp only;split
  ·exact ⟨_,rfl⟩
  ·rename_i hc;split
   ·exact ⟨_,rfl⟩
   ·obtain ⟨t,k1,k2⟩:=(JF _).1 _ _ _ I aq;have hle:=dV.le t _ k1;rw [(uX _).1 t next k1 (by unfold fN;omega)];simp only;split
    ·exact ⟨_,rfl⟩
    ·rw [k2];exact xW r _
theorem Mp (p:Src):∃ b,oX p=some b:=by
 unfold oX;split
 ·exact ⟨_,rfl⟩
 ·split
  ·exact ⟨_,rfl⟩
  ·obtain ⟨r,h⟩:=xW (nodes:=p.nodes) p.fns 0;rw [show ((0:Nat):Int)=0 from rfl] at h;rw [h]
   cases r <;> exact ⟨_,rfl⟩
structure gR (p:Src) (l:List T):Prop where
 globals:cH p.globals=true
 arrays:p.arrays.all ph=true
 st:dD p.nodes 0 l
 fns:gB P1 p.fns 0 l
 len:aC l=p.nodes.length
 few:p.nodes.length<=800
theorem UO {p:Src} (h:oX p=some true):∃ l,gR p l:=by
 unfold oX at h;split at h
 ·cases h
 ·rename_i I;split at h
  ·cases h
  ·rename_i F;rw [show (0:Int)=((0:Nat):Int) from rfl] at h
   cases hf:gY p.nodes p.fns ((0:Nat):Int) with
   | none=>rw [hf] at h;cases h
   | some r =>
    rw [hf] at h
    cases r with
    | none=>cases h
    | some e =>
     obtain ⟨l,k1,k2,k3⟩:=Ax _ _ _ hf;simp only [Option.some.injEq,aE,beq_iff_eq,decide_eq_true_eq] at h;exact ⟨l,by simpa using I,by simpa using F,k1,k2,by omega,by omega⟩
theorem gR.oX {p:Src} {l:List T} (h:gR p l):oX p=some true:=by
 unfold Go.Sp.oX;rw [ab (by rw [h.globals];decide),ab (by rw [h.arrays];decide),show (0:Int)=((0:Nat):Int) from rfl,Aw h.few _ _ _ h.st h.fns];simp only [Option.some.injEq,aE,beq_iff_eq,decide_eq_true_eq];have:=h.len;have:=h.few;omega
theorem Dy {nodes:List Nd}:∀ (fns:List Fn) (next:Nat) (acc l:List T) (e:Nat),jE nodes fns next acc=some (l,e)->∃ l',l=acc++l'/\dD nodes next l'/\gB (fun _ _=>True) fns next l'/\e=next+aC l'/\mV l'
 | [],next,acc,l,e,h=>by rw [jE] at h;cases h;exact ⟨[],by simp,trivial,trivial,by simp [aC],trivial⟩
 | f::r,next,acc,l,e,h=>by
  rw [jE] at h
  cases hq:tr nodes next with
  | none=>rw [hq] at h;cases h
  | some x =>
   obtain ⟨t,e1⟩:=x;rw [hq] at h;simp only at h;split at h
   ·rename_i hb;obtain ⟨a1,a2,a3⟩:=W8 _ _ _ _ hq;subst a2;obtain ⟨l',b1,b2,b3,b4,b5⟩:=Dy r _ _ _ _ h;exact ⟨t::l',by rw [b1];simp,by rw [dD];exact ⟨a1,b2⟩,by rw [gB];exact ⟨hb,trivial,b3⟩,by rw [b4,aC];omega,by rw [mV];exact ⟨a3,b5⟩⟩
   ·cases h
theorem Ju {nodes:List Nd} {Q:Fn->T->Prop}:∀ (fns:List Fn) (next:Nat) (acc l:List T),dD nodes next l->gB Q fns next l->mV l->jE nodes fns next acc=some (acc++l,next+aC l)
 | [],next,acc,[],_,_,_=>by rw [jE,aC];simp
 | f::r,next,acc,t::l,h,hf,ha=>by
  rw [dD] at h;rw [gB] at hf;rw [mV] at ha;have hle:=dV.le t _ h.1;rw [jE,tr,Xh _ t next h.1 ha.1 aq];simp only;rw [ae hf.1,Ju r _ _ l h.2 hf.2.2 ha.2,aC];simp [gW]
 | [],_,_,t::l,_,h,_=>by cases h
 | f::r,_,_,[],_,h,_=>by cases h
mutual
theorem dV.fl {nodes:List Nd}:∀ (t:T) (a:Nat),dV nodes a t->(nodes.take (a+aO t)).drop a=mH a t
 | .mk n l,a,h=>by
  have hle:=dV.le _ _ h;rw [dV] at h;rw [aO] at hle;have I:=dD.fl l (a+1) h.2.2 (by have:=(bh h.1).1;omega);rw [mH,<-h.2.1,<-I,aO,show a+(aC l+1)=a+1+aC l by omega]
  have F:(nodes.take (a+1+aC l))[a]?=some n:=by rw [getElem?_take,ae aq];exact h.1
  obtain ⟨h3,h4⟩:=bh F;rw [nl h3,h4]
theorem dD.fl {nodes:List Nd}:∀ (l:List T) (a:Nat),dD nodes a l->a<=nodes.length->(nodes.take (a+aC l)).drop a=eK a l
 | [],a,h,ha=>by
  rw [eK];exact gQ (by rw [aC,iM,fV];omega)
 | t::r,a,h,ha=>by
  rw [dD] at h;have hle:=dV.le _ _ h.1;have I:=dV.fl t a h.1;have F:=dD.fl r (a+aO t) h.2 hle;have BH:=dD.le r _ h.2 hle;rw [eK,<-I,<-F,aC,show a+(aO t+aC r)=a+aO t+aC r by omega]
  have h3:nodes.take (a+aO t)=(nodes.take (a+aO t+aC r)).take (a+aO t):=by rw [List.take_take,Nat.min_eq_left aq]
  rw [h3];generalize hm:nodes.take (a+aO t+aC r)=m
  have eL:m.length=a+aO t+aC r:=by rw [<-hm,fV];omega
  rw [<-List.drop_append_of_le_length (by rw [fV];omega),take_append_drop]
end
theorem dD.all {nodes:List Nd} {l:List T} (h:dD nodes 0 l) (hl:aC l=nodes.length):nodes=eK 0 l:=by
 have:=dD.fl l 0 h (aX _);rw [fk,hl,cy,List.drop_zero] at this;exact this
def oU (n:Int):ah:=if n < 0 then 45::eI n.natAbs else eI n.toNat
def sM (s:ah):Int:=match levels.findIdx? (fun l=>l.contains s) with | some i=>(i:Int) | none => -1
def ve (b:Bool) (x:ah):ah:=if b=true then (40::x)++[41] else x
def mh (t:T) (least:Int):Bool:=(t.n.kind==6)&&decide (sM t.n.s < least)
def uZ (n:Nd) (l:List T) (x:List ah):ah :=
 if n.kind=1 then oU n.n
 else if n.kind=3 then ((n.s++[91])++x.getD 0 [])++[93]
 else if n.kind=4 then ((n.s++[40])++bK x)++[41]
 else if n.kind=5 then (n.s++[32])++(match l with | a::_=>ve (a.n.kind==6) (x.getD 0 []) | []=>[])
 else if n.kind=6 then (match l with
  | a::b::_=>(((ve (mh a (sM n.s)) (x.getD 0 [])++[32])++n.s)++[32])++ve (mh b (sM n.s+1)) (x.getD 1 [])
  | _=>[])
 else n.s
mutual
def dh:T->ah
 | .mk n l=>uZ n l (gH l)
def gH:List T->List ah
 | []=>[]
 | t::r=>dh t::gH r
end
theorem Pt (t:T):dh t=uZ t.n t.kids (gH t.kids):=by cases t;rw [dh];rfl
theorem Ed (l:List T):gH l=l.map dh:=by
 induction l with
 | nil=>rfl
 | cons t l ih=>rw [gH,ih];rfl
mutual
def kU:T->Nat
 | .mk n l=>n.s.length+60+gV l
def gV:List T->Nat
 | []=>0
 | t::r=>kU t+gV r
end
theorem pR (t:T):kU t=t.n.s.length+60+gV t.kids:=by cases t;rw [kU];rfl
theorem u9 {l:List T} {t:T} (h:t∈l):kU t<=gV l:=by
 induction l with
 | nil=>cases h
 | cons a l ih =>
  rw [gV]
  rcases ei h with rfl | h
  ·omega
  ·have:=ih h;omega
theorem Q0 (l:List T):l.length * 60<=gV l:=by
 induction l with
 | nil=>simp
 | cons t l ih=>rw [gV,pR,length_cons];omega
theorem EJ {n:Nat} (h:n < 100000000000000000000):(eI n).length<=20:=JB 19 n (by simpa using h)
theorem yV {n:Int} (h : -9223372036854775808<=n/\n<=9223372036854775807):(oU n).length<=21:=by
 unfold oU;split
 ·have:=EJ (n:=n.natAbs) aq;simp only [length_cons];omega
 ·have:=EJ (n:=n.toNat) aq;omega
theorem zA (b:Bool) (x:ah):(ve b x).length<=x.length+2:=by
 unfold ve;split <;> simp
theorem GP:∀ (r:List ah),(r.flatMap fun y=>44::32::y).length=(r.map fun y=>y.length+2).sum
 | []=>rfl
 | z::r=>by
  have:=GP r;simp only [flatMap_cons,aZ,List.map_cons,sum_cons,length_cons] at this |-;omega
theorem BP:∀ (x:List ah),(bK x).length<=(x.map fun y=>y.length+2).sum
 | []=>by simp [bK]
 | y::r=>by
  have h:=GP r;rw [List.map_cons,sum_cons,bK,aZ,h];omega
mutual
def ra:T->Prop
 | .mk n l=>(-9223372036854775808<=n.n/\n.n<=9223372036854775807)/\rb l
def rb:List T->Prop
 | []=>True
 | t::r=>ra t/\rb r
end
theorem rS (t:T):ra t↔(-9223372036854775808<=t.n.n/\t.n.n<=9223372036854775807)/\rb t.kids:=by cases t;rw [ra];exact Iff.rfl
theorem ku {l:List T} {t:T} (h:rb l) (ht:t∈l):ra t:=by
 induction l with
 | nil=>cases ht
 | cons a l ih =>
  rw [rb] at h
  rcases ei ht with rfl | ht
  ·exact h.1
  ·exact ih h.2 ht
theorem wR:∀ (N:Nat) (t:T),aO t<=N->ra t->(dh t).length+4<=kU t:=by
 intro N
 induction N with
 | zero=>intro t h;rw [eO] at h;omega
 | succ N ih =>
  intro t hN hn;rw [eO] at hN;rw [rS] at hn
  have hk:∀ a∈t.kids,(dh a).length+4<=kU a:=fun a ha=>by
   refine ih a ?_ (ku hn.2 ha)
   have:∀ (l:List T),a∈l->aO a<=aC l:=by
    intro l
    induction l with
    | nil=>intro h;cases h
    | cons b l ih2 =>
     intro h;rw [aC]
     rcases ei h with rfl | h
     ·omega
     ·have:=ih2 h;omega
   have:=this _ ha;omega
  have aba:((gH t.kids).map fun y=>y.length+2).sum<=gV t.kids:=by
   have:∀ (l:List T),(∀ a∈l,(dh a).length+4<=kU a)->((gH l).map fun y=>y.length+2).sum<=gV l:=by
    intro l
    induction l with
    | nil=>intro _;simp [gH]
    | cons a l ih2 =>
     intro h;have I:=h a (mem_cons_self)
     have F:=ih2 fun b hb=>h b (cV _ hb)
     rw [gH,gV,List.map_cons,sum_cons];omega
   exact this _ hk
  have h0:((gH t.kids).getD 0 []).length<=gV t.kids:=by
   cases hl:t.kids with
   | nil=>simp [gH]
   | cons a r =>
    have:=hk a (by rw [hl];exact mem_cons_self);rw [gH,gV];simp;omega
  have h01:∀ a b r,t.kids=a::b::r->((gH t.kids).getD 0 []).length+((gH t.kids).getD 1 []).length+8<=gV t.kids:=fun a b r hl=>by
   have I:=hk a (by rw [hl];exact mem_cons_self);have F:=hk b (by rw [hl];exact cV _ mem_cons_self);rw [hl,gH,gH,gV,gV];simp;omega
  rw [Pt,pR];unfold uZ;split
  ·have:=yV hn.1;omega
  ·split
   ·simp only [aZ,length_cons,length_nil];omega
   ·split
    ·have:=BP (gH t.kids);simp only [aZ,length_cons,length_nil];omega
    ·split
     ·cases hl:t.kids with
      | nil=>simp <;> omega
      | cons a r =>
       simp only [aZ,length_cons,length_nil];have:=zA (a.n.kind==6) ((gH (a::r)).getD 0 []);rw [hl] at h0;omega
     ·split
      ·match hl:t.kids with
       | []=>simp <;> omega
       | [a]=>simp <;> omega
       | a::b::r =>
        have I:=h01 a b r hl;rw [hl] at I;have F:=zA (mh a (sM t.n.s)) ((gH (a::b::r)).getD 0 []);have h3:=zA (mh b (sM t.n.s+1)) ((gH (a::b::r)).getD 1 []);simp only [aZ,length_cons,length_nil];omega
      ·omega
def yc (own:ah) (n:Nd) (k:Nat) (x b:List ah):ah :=
 if n.kind=13 then ((([118,97,114,32]++n.s)++[32,61,32])++x.getD 0 [])++[59]
 else if n.kind=7 then ((n.s++[32,61,32])++x.getD 0 [])++[59]
 else if n.kind=8 then ((((n.s++[91])++x.getD 0 [])++[93,32,61,32])++x.getD 1 [])++[59]
 else if n.kind=9 then (if k=3 then ((([105,102,32,40]++x.getD 0 [])++[41,32])++b.getD 1 [])++([32,101,108,115,101,32]++b.getD 2 []) else (([105,102,32,40]++x.getD 0 [])++[41,32])++b.getD 1 [])
 else if n.kind=10 then (([119,104,105,108,101,32,40]++x.getD 0 [])++[41,32])++b.getD 1 []
 else if n.kind=11 then ([114,101,116,117,114,110,32]++x.getD 0 [])++[59]
 else if n.kind=12 then x.getD 0 []++[59]
 else own
section
variable (tx:T->ah) (inl:List ah->Nat->ah)
mutual
def kQ:Nat->T->ah
 | d,.mk n l=>yc (tx (.mk n l)) n l.length (l.map tx) (qM d l)
def qM:Nat->List T->List ah
 | _,[]=>[]
 | d,t::r=>nU d t::qM d r
def nU:Nat->T->ah
 | d,.mk n l=>inl (yb (d+1) l) d
def yb:Nat->List T->List ah
 | _,[]=>[]
 | d,t::r=>kQ d t::yb d r
end
end
theorem Pn (tx:T->ah) (inl:List ah->Nat->ah) (d:Nat) (t:T):kQ tx inl d t=yc (tx t) t.n t.kids.length (t.kids.map tx) (qM tx inl d t.kids):=by cases t;rw [kQ];rfl
theorem MW (tx:T->ah) (inl:List ah->Nat->ah) (d:Nat) (t:T):nU tx inl d t=inl (yb tx inl (d+1) t.kids) d:=by cases t;rw [nU];rfl
theorem Jt (tx:T->ah) (inl:List ah->Nat->ah) (d:Nat) (l:List T):qM tx inl d l=l.map (nU tx inl d):=by
 induction l with
 | nil=>rfl
 | cons t l ih=>rw [qM,ih];rfl
theorem KG (tx:T->ah) (inl:List ah->Nat->ah) (d:Nat) (l:List T):yb tx inl d l=l.map (kQ tx inl d):=by
 induction l with
 | nil=>rfl
 | cons t l ih=>rw [yb,ih];rfl
def sU (acc:ah) (l:List ah):ah:=l.foldl (fun acc s=>acc++(s++[32])) acc
def gq (l:List ah) (d:Nat):ah:=sU [123,32] l++[125]
def ln:List ah->Nat
 | []=>0
 | s::l=>s.length+1+ln l
theorem ug (l:List ah):∀ acc,(sU acc l).length=acc.length+ln l:=by
 induction l with
 | nil=>intro acc;simp [sU,ln]
 | cons s l ih =>
  intro acc;have:=ih (acc++(s++[32]));simp only [sU,foldl_cons,ln,aZ,length_cons,length_nil] at this |-;omega
theorem Ik (a b:List ah):ln (a++b)=ln a+ln b:=by
 induction a with
 | nil=>simp [ln]
 | cons s a ih=>simp only [cons_append,ln,ih];omega
theorem Pp (l:List ah) (k:Nat):ln (l.take k)<=ln l:=by
 have:ln l=ln (l.take k)+ln (l.drop k):=by rw [<-Ik,take_append_drop]
 omega
theorem M6 (acc:ah) (l:List ah) (s:ah):sU acc (l++[s])=sU acc l++(s++[32]):=by simp [sU]
theorem UQ {l:List ah} {s:ah} (h:s∈l):s.length<=ln l:=by
 induction l with
 | nil=>cases h
 | cons a l ih =>
  rw [ln]
  rcases ei h with rfl | h
  ·omega
  ·have:=ih h;omega
theorem QI {l:List ah} {d:Nat} {s:ah} (h:s∈l):s.length<=(gq l d).length:=by
 have I:=UQ h;have F:=ug l [123,32];unfold gq;rw [aZ,F];omega
def g1 (s:ah):ah:=([105,110,116,32]++s)++[59,10]
def a1 (a:Ar):ah:=((([105,110,116,32]++a.name)++[91])++oU a.size)++[93,59,10]
def c8 (tx:T->ah) (inl:List ah->Nat->ah) (x:Fn × T):ah:=((((([102,117,110,99,32]++x.1.name)++[40])++bK x.1.params)++[41,32])++nU tx inl 0 x.2)++[10]
def dC {α:Type} (f:α->ah):ah->List α->ah
 | acc,[]=>acc
 | acc,x::l=>dC f (acc++f x) l
theorem yj {α:Type} (f:α->ah) (l:List α) (x:α):∀ acc,dC f acc (l++[x])=dC f acc l++f x:=by
 induction l with
 | nil=>intro acc;rfl
 | cons y l ih=>intro acc;simp only [cons_append,dC];exact ih _
theorem P9 {α:Type} (f:α->ah) (l k:List α):∀ acc,dC f acc (l++k)=dC f (dC f acc l) k:=by
 induction l with
 | nil=>intro acc;rfl
 | cons y l ih=>intro acc;simp only [cons_append,dC];exact ih _
theorem DB {α:Type} (f:α->ah) (l:List α):∀ acc,acc.length<=(dC f acc l).length:=by
 induction l with
 | nil=>intro acc;exact aH _
 | cons y l ih=>intro acc;have:=ih (acc++f y);rw [dC];rw [aZ] at this;omega
theorem yk {α:Type} (f:α->ah) (l:List α) (k:Nat) (acc:ah):(dC f acc (l.take k)).length<=(dC f acc l).length:=by
 have:dC f acc l=dC f (dC f acc (l.take k)) (l.drop k):=by rw [<-P9,take_append_drop]
 rw [this];exact DB f _ _
def nP (tx:T->ah) (inl:List ah->Nat->ah) (p:Src) (trees:List T):ah:=dC (c8 tx inl) (dC a1 (dC g1 [] p.globals) p.arrays) (p.fns.zip trees)
end Go.Im
namespace Go.Im
def fQ {α:Type} (p:α->α->Bool):List α->List α->Bool
 | [],[]=>true
 | a::r,b::s=>p a b&&fQ p r s
 | _,_=>false
theorem zF {α:Type} {p:α->α->Bool}:∀ {a b:List α},fQ p a b=true->a.length=b.length
 | [],[],_=>rfl
 | a::r,b::s,h=>by rw [fQ,aE] at h;rw [length_cons,length_cons,zF h.2]
 | [],b::s,h=>by cases h
 | a::r,[],h=>by cases h
theorem sy {α:Type} {p:α->α->Bool} {a b:List α} (h:a.length≠b.length):fQ p a b=false:=by
 cases hc:fQ p a b with
 | false=>rfl
 | true=>exact absurd (zF hc) h
theorem Gr {α:Type} {p:α->α->Bool}:∀ {a b:List α} {k:Nat} {x y:α},a[k]?=some x->b[k]?=some y->fQ p a b=true->p x y=true
 | a::r,b::s,0,x,y,I,F,h=>by cases I;cases F;rw [fQ,aE] at h;exact h.1
 | a::r,b::s,k+1,x,y,I,F,h=>by rw [fQ,aE] at h;exact Gr (by simpa using I) (by simpa using F) h.2
 | [],_,k,x,y,I,F,h=>by simp at I
 | a::r,[],k,x,y,I,F,h=>by simp at F
theorem sA {α:Type} {p:α->α->Bool} {a b:List α} {k:Nat} {x y:α} (I:a[k]?=some x) (F:b[k]?=some y) (h:p x y=false):fQ p a b=false:=by
 cases hc:fQ p a b with
 | false=>rfl
 | true=>have:=Gr I F hc;rw [h] at this;cases this
theorem JG {α:Type} {p:α->α->Bool}:∀ {a b:List α},a.length=b.length->(∀ (k:Nat) x y,a[k]?=some x->b[k]?=some y->p x y=true)->fQ p a b=true
 | [],[],_,_=>rfl
 | a::r,b::s,hl,h=>by
  rw [fQ,h 0 a b rfl rfl,JG (by simpa using hl) fun k x y I F=>h (k+1) x y (by simpa using I) (by simpa using F)];rfl
 | [],b::s,hl,h=>by simp at hl
 | a::r,[],hl,h=>by simp at hl
def ui {α:Type} (p:α->α->Bool) (a b:List α) (k:Nat):Prop:=∀ j x y,j < k->a[j]?=some x->b[j]?=some y->p x y=true
theorem mG {α:Type} {p:α->α->Bool} {a b:List α} {k:Nat} {x y:α} (I:a[k]?=some x) (F:b[k]?=some y) (h:ui p a b k) (hp:p x y=true):ui p a b (k+1):=fun j u v hj h3 h4=>by
 by_cases he:j=k
 ·subst he;rw [I] at h3;rw [F] at h4;cases h3;cases h4;exact hp
 ·exact h j u v aq h3 h4
theorem oc {α:Type} {p:α->α->Bool} {a b:List α} (hl:a.length=b.length) (h:ui p a b a.length):fQ p a b=true :=
 JG hl fun k x y I F=>h k x y (bh I).1 I F
def sn (a b:Go.Sp.Fn):Bool:=((a.name==b.name)&&fQ (fun x y=>x==y) a.params b.params)&&(a.body==b.body)
def lQ (a b:Go.Xp.Nd):Bool:=(((a.kind==b.kind)&&(a.n==b.n))&&(a.s==b.s))&&fQ (fun x y=>x==y) a.kids b.kids
def Aq (x y:Go.Xp.Ar):Bool:=(x.name==y.name)&&(x.size==y.size)
open Go.Xp Go.Sp
theorem JL (l:List T):(aQ l).length=l.length:=by rw [tM,bS]
theorem yr (t:T):(er t).n=⟨t.n.kind,0,t.n.n,t.n.s,[]⟩:=by cases t;rw [er];rfl
theorem TQ (t:T):(er t).kids=aQ t.kids:=by cases t;rw [er];rfl
mutual
theorem wQ:∀ t:T,aO (er t)=aO t
 | .mk n l=>by rw [er,aO,aO,wP l]
theorem wP:∀ l:List T,aC (aQ l)=aC l
 | []=>by rw [aQ]
 | t::r=>by rw [aQ,aC,aC,wQ t,wP r]
end
theorem Fg (m:Nat):∀ (l:List T) (i:Nat),bt m i (aQ l)=bt m i l
 | [],i=>by rw [aQ]
 | t::r,i=>by rw [aQ,bt,bt,Fg m r (i+1),yr]
theorem FE:∀ (l:List T),(aQ l).all (fun x=>im x.n.kind)=l.all (fun x=>im x.n.kind)
 | []=>by rw [aQ]
 | t::r=>by rw [aQ,all_cons,all_cons,FE r,yr]
theorem WV (n:Nd) (k:Nat) (kd:Nat->Bool) (bl:Bool) (h:0<=n.at_) (h':own ⟨n.kind,0,n.n,n.s,[]⟩ k kd bl=true):own n k kd bl=true:=by
 unfold own at h' |-;rw [ab (by simp)] at h';rw [ab (by simpa using h)];exact h'
mutual
theorem MS:∀ t:T,du (er t)=true->yi t->du t=true
 | .mk n l,h,ha=>by
  rw [er,du,aE] at h;rw [yi] at ha;rw [du,aE];refine ⟨Jq l h.1 ha.2,?_⟩;have F:own ⟨n.kind,0,n.n,n.s,[]⟩ (aQ l).length (fun m=>bt m 0 (aQ l)) ((aQ l).all fun x=>im x.n.kind)=true:=h.2;rw [JL,FE] at F;simp only [Fg] at F;exact WV n _ _ _ ha.1 F
theorem Jq:∀ l:List T,b8 (aQ l)=true->mV l->b8 l=true
 | [],_,_=>rfl
 | t::r,h,ha=>by
  rw [aQ,b8,aE] at h;rw [mV] at ha;rw [b8,aE];exact ⟨MS t h.1 ha.1,Jq r h.2 ha.2⟩
end
mutual
theorem MR:∀ t:T,du t=true->yi t
 | .mk n l,h=>by
  rw [du,aE] at h;rw [yi];refine ⟨?_,Jp l h.1⟩;have F:own n l.length (fun m=>bt m 0 l) (l.all fun x=>im x.n.kind)=true:=h.2
  by_cases h0:n.at_ < 0
  ·unfold own at F;rw [ae (by simpa using h0)] at F;cases F
  ·omega
theorem Jp:∀ l:List T,b8 l=true->mV l
 | [],_=>trivial
 | t::r,h=>by
  rw [b8,aE] at h;rw [mV];exact ⟨MR t h.1,Jp r h.2⟩
end
theorem lA (a:E):nz a.tree.n.kind=true:=by cases a <;> rfl
mutual
theorem E.gK:∀ a:E,a.ok=true->du a.tree=true
 | .num n,h=>by
  simp only [E.ok,aE] at h;rw [E.tree,du,b8];simp [bU,own,T.n,T.kids];exact h
 | .name s,h=>by
  simp only [E.ok] at h;rw [E.tree,du,b8];simp [bU,own,T.n,T.kids,h]
 | .at_ s a,h=>by
  simp only [E.ok,aE] at h;have F:=E.gK a h.2;have h3:=lA a;rw [E.tree,du,b8,b8,F];simp [bU,own,T.n,T.kids,h.1,bt];exact h3
 | .call s l,h=>by
  simp only [E.ok,aE] at h;obtain ⟨F,h3⟩:=E.sP l h.2;rw [E.tree,du,F];have:=h3 (E.trees l).length 0 aq;simp [bU,own,T.n,T.kids,h.1,this]
 | .un s a,h=>by
  simp only [E.ok,aE] at h;have F:=E.gK a h.2;have h3:=lA a;rw [E.tree,du,b8,b8,F];simp [bU,own,T.n,T.kids,bt];exact ⟨by simpa using h.1,h3⟩
 | .bin s a b,h=>by
  simp only [E.ok,aE] at h;have F:=E.gK a h.1.2;have h3:=lA a;have h4:=E.gK b h.2;have h5:=lA b;rw [E.tree,du,b8,b8,b8,F,h4];simp [bU,own,T.n,T.kids,bt,h.1.1];exact ⟨h3,h5⟩
theorem E.sP:∀ l:List E,E.df l=true->b8 (E.trees l)=true/\∀ m i,i+(E.trees l).length<=m->bt m i (E.trees l)=true
 | [],_=>⟨rfl,fun m i _=>rfl⟩
 | a::l,h=>by
  simp only [E.df,aE] at h;obtain ⟨F,h3⟩:=E.sP l h.2;refine ⟨by rw [E.trees,b8,E.gK a h.1,F];rfl,fun m i hm=>?_⟩;rw [E.trees,length_cons] at hm;rw [E.trees,bt,ae aq,lA a,h3 m (i+1) aq];rfl
end
theorem W1 (a:S):im a.tree.n.kind=true:=by cases a <;> rfl
mutual
theorem S.gK:∀ a:S,a.ok=true->du a.tree=true
 | .set s a,h=>by
  simp only [S.ok,aE] at h;have F:=E.gK a h.2;have h3:=lA a;rw [S.tree,du,b8,b8,F];simp [bU,own,T.n,T.kids,h.1,bt];exact h3
 | .var s a,h=>by
  simp only [S.ok,aE] at h;have F:=E.gK a h.2;have h3:=lA a;rw [S.tree,du,b8,b8,F];simp [bU,own,T.n,T.kids,h.1,bt];exact h3
 | .ret a,h=>by
  simp only [S.ok] at h;have F:=E.gK a h;have h3:=lA a;rw [S.tree,du,b8,b8,F];simp [bU,own,T.n,T.kids,bt];exact h3
 | .do_ a,h=>by
  simp only [S.ok] at h;have F:=E.gK a h;have h3:=lA a;rw [S.tree,du,b8,b8,F];simp [bU,own,T.n,T.kids,bt];exact h3
 | .put s a b,h=>by
  simp only [S.ok,aE] at h;have F:=E.gK a h.2.1;have h3:=lA a;have h4:=E.gK b h.2.2;have h5:=lA b;rw [S.tree,du,b8,b8,b8,F,h4];simp [bU,own,T.n,T.kids,bt,h.1];exact ⟨h3,h5⟩
 | .if1 c b,h=>by
  simp only [S.ok,aE] at h;have F:=E.gK c h.1;have h3:=lA c;have h4:=S.vW b h.2;rw [S.tree,du,b8,b8,b8,F,h4];simp [bU,own,T.n,T.kids,bt];exact h3
 | .if2 c b b2,h=>by
  simp only [S.ok,aE] at h;have F:=E.gK c h.1;have h3:=lA c;have h4:=S.vW b h.2.1;have h5:=S.vW b2 h.2.2;rw [S.tree,du,b8,b8,b8,b8,F,h4,h5];simp [bU,own,T.n,T.kids,bt];exact h3
 | .while_ c b,h=>by
  simp only [S.ok,aE] at h;have F:=E.gK c h.1;have h3:=lA c;have h4:=S.vW b h.2;rw [S.tree,du,b8,b8,b8,F,h4];simp [bU,own,T.n,T.kids,bt];exact h3
theorem S.vW:∀ l:List S,S.df l=true->du (.mk ⟨14,0,0,[],[]⟩ (S.trees l))=true
 | l,h=>by
  obtain ⟨I,F⟩:=S.sP l h;have h3:bU (.mk ⟨14,0,0,[],[]⟩ (S.trees l))=own ⟨14,0,0,[],[]⟩ (S.trees l).length (fun m=>bt m 0 (S.trees l)) ((S.trees l).all fun x=>im x.n.kind):=rfl;rw [du,I,h3,F];simp [own]
theorem S.sP:∀ l:List S,S.df l=true->b8 (S.trees l)=true/\(S.trees l).all (fun x=>im x.n.kind)=true
 | [],_=>⟨rfl,rfl⟩
 | a::l,h=>by
  simp only [S.df,aE] at h;obtain ⟨I,F⟩:=S.sP l h.2;exact ⟨by rw [S.trees,b8,S.gK a h.1,I];rfl,by rw [S.trees,all_cons,F,W1 a];rfl⟩
end
theorem Yv {n:Nd} {k:Nat} {kd:Nat->Bool} {bl:Bool} (h:own n k kd bl=true):cY n.kind k=true:=by
 have hc:n.kind=1\/n.kind=2\/n.kind=3\/n.kind=4\/n.kind=5\/n.kind=6\/n.kind=7\/n.kind=8\/n.kind=9\/n.kind=10\/n.kind=11\/n.kind=12\/n.kind=13\/n.kind=14\/(n.kind < 1\/14 < n.kind):=by omega
 unfold own at h
 by_cases h0:decide (n.at_ < 0)=true
 ·rw [ae h0] at h;cases h
 rw [ab h0] at h
 by_cases I:(n.kind != 1&&n.n != 0)=true
 ·rw [ae I] at h;cases h
 rw [ab I] at h;clear h0 I
 rcases hc with hk | hk | hk | hk | hk | hk | hk | hk | hk | hk | hk | hk | hk | hk | hk
 all_goals (first | (simp [hk] at h;simp [cY,hk];done) | (simp [hk] at h;simp [cY,hk];omega) | (simp [hk] at h;simp [cY,hk,h];done) | skip)
 ·exfalso
  have e1:(n.kind==1)=false:=by simp;omega
  have e2:(n.kind==2)=false:=by simp;omega
  have e3:(n.kind==3)=false:=by simp;omega
  have e4:(n.kind==4)=false:=by simp;omega
  have e5:(n.kind==5)=false:=by simp;omega
  have e6:(n.kind==6)=false:=by simp;omega
  have e7:(n.kind==7)=false:=by simp;omega
  have e8:(n.kind==8)=false:=by simp;omega
  have e9:(n.kind==9)=false:=by simp;omega
  have YL:(n.kind==10)=false:=by simp;omega
  have e11:(n.kind==11)=false:=by simp;omega
  have e12:(n.kind==12)=false:=by simp;omega
  have e13:(n.kind==13)=false:=by simp;omega
  have e14:(n.kind==14)=false:=by simp;omega
  rw [e1,e2,e3,e4,e5,e6,e7,e8,e9,YL,e11,e12,e13,e14] at h;simp at h
mutual
theorem R5:∀ t:T,du t=true->fo t=true
 | .mk n l,h=>by
  rw [du,aE] at h;rw [fo,MT l h.1,Bool.and_true];exact Yv h.2
theorem MT:∀ l:List T,b8 l=true->qW l=true
 | [],_=>rfl
 | t::r,h=>by
  rw [b8,aE] at h;rw [qW,R5 t h.1,MT r h.2];rfl
end
theorem Q1 (t:T) (z:Int):mh (er t) z=mh t z:=by unfold mh;rw [yr]
theorem UW (n:Nd) (l:List T) (x:List ah):uZ ⟨n.kind,0,n.n,n.s,[]⟩ (aQ l) x=uZ n l x:=by
 unfold uZ
 match l with
 | []=>rw [aQ]
 | [a]=>rw [aQ,aQ];simp only [yr]
 | a::b::r=>rw [aQ,aQ];simp only [yr,Q1]
mutual
theorem Pu:∀ t:T,dh (er t)=dh t
 | .mk n l=>by rw [er,dh,dh,Ec l,UW]
theorem Ec:∀ l:List T,gH (aQ l)=gH l
 | []=>by rw [aQ]
 | t::r=>by rw [aQ,gH,gH,Pu t,Ec r]
end
mutual
theorem W6 (inl:List ah->Nat->ah):∀ (t:T) (d:Nat),kQ dh inl d (er t)=kQ dh inl d t
 | .mk n l,d=>by
  have h:=Pu (.mk n l);rw [er] at h |-;rw [kQ,kQ,h,Js inl l d,JL]
  have:(aQ l).map dh=l.map dh:=by rw [<-Ed,<-Ed,Ec]
  rw [this];rfl
theorem Js (inl:List ah->Nat->ah):∀ (l:List T) (d:Nat),qM dh inl d (aQ l)=qM dh inl d l
 | [],d=>by rw [aQ]
 | t::r,d=>by rw [aQ,qM,qM,MX inl t d,Js inl r d]
theorem MX (inl:List ah->Nat->ah):∀ (t:T) (d:Nat),nU dh inl d (er t)=nU dh inl d t
 | .mk n l,d=>by rw [er,nU,nU,KE inl l (d+1)]
theorem KE (inl:List ah->Nat->ah):∀ (l:List T) (d:Nat),yb dh inl d (aQ l)=yb dh inl d l
 | [],d=>by rw [aQ]
 | t::r,d=>by rw [aQ,yb,yb,W6 inl t d,KE inl r d]
end
theorem OV {s:ah} (h:fa s=true):sM s=(ep s:Int):=by
 unfold sM ep
 cases hf:levels.findIdx? (fun l=>l.contains s) with
 | some i=>rfl
 | none =>
  rw [List.findIdx?_eq_none_iff] at hf;unfold fa at h;rw [p7] at h;obtain ⟨l,I,F⟩:=h;have:=hf l I;rw [F] at this;cases this
theorem Kg {a:E} (h:a.ok=true) (k:Nat) (hk:k<=9):mh a.tree (k:Int)=decide (a.lv < k):=by
 have key:∀ b:Bool,(false&&b)=decide (9 < k):=fun b=>by rw [Bool.false_and,decide_eq_false aq]
 cases a with
 | bin s x y =>
  simp only [E.ok,aE] at h;show (true&&decide (sM s < (k:Int)))=decide (ep s < k);rw [OV h.1.1,Bool.true_and];exact decide_eq_decide.2 aq
 | num n=>exact key _
 | name n=>exact key _
 | at_ s a=>exact key _
 | call s l=>exact key _
 | un s a=>exact key _
theorem Dz (lv k:Nat) (x:ah):ve (decide (lv < k)) x=ry lv k x:=by
 unfold ve ry
 by_cases h:lv < k
 ·rw [ae (by simpa using h),ae h]
 ·rw [ab (by simpa using h),ab h]
theorem Vc {a:E} (h:a.ok=true):(a.tree.n.kind==6)=decide (a.lv < 9):=by
 cases a with
 | bin s x y =>
  simp only [E.ok,aE] at h;have:=(qA h.1.1).1;show true=decide (ep s < 9);exact (decide_eq_true this).symm
 | _=>rfl
mutual
theorem jO:∀ a:E,a.ok=true->dh a.tree=a.bp
 | .num n,h=>by
  simp only [E.ok,aE,decide_eq_true_eq] at h;rw [E.tree,dh,E.bp];unfold uZ oU;simp only [if_true];rw [ab aq]
 | .name s,h=>by
  rw [E.tree,dh,E.bp];simp [uZ]
 | .at_ s a,h=>by
  simp only [E.ok,aE] at h;have F:=jO a h.2;rw [E.tree,dh,gH,gH,F,E.bp];simp [uZ]
 | .call s l,h=>by
  simp only [E.ok,aE] at h;rw [E.tree,dh,KQ l h.2,E.bp];simp [uZ]
 | .un s a,h=>by
  simp only [E.ok,aE] at h;have F:=jO a h.2;rw [E.tree,dh,gH,gH,F,E.bp,<-Dz,<-Vc h.2];simp [uZ]
 | .bin s a b,h=>by
  simp only [E.ok,aE] at h;have F:=jO a h.1.2;have h3:=jO b h.2;have hl:=(qA h.1.1).1;have e1:=Kg h.1.2 (ep s) aq;have e2:=Kg h.2 (ep s+1) aq;rw [E.tree,dh,gH,gH,gH,F,h3,E.bp,<-Dz,<-Dz,<-e1,<-e2];unfold uZ;simp only [OV h.1.1];simp
theorem KQ:∀ l:List E,E.df l=true->gH (E.trees l)=E.dc l
 | [],_=>rfl
 | a::l,h=>by
  simp only [E.df,aE] at h;rw [E.trees,gH,E.dc,jO a h.1,KQ l h.2]
end
theorem EC (x:E->ah):∀ (l:List S) (acc:ah),sU acc (l.map (S.bp x))=S.dc x acc l
 | [],acc=>by rw [S.dc];rfl
 | a::l,acc=>by
  rw [S.dc,<-EC x l];simp [sU,iw]
mutual
theorem UN:∀ (s:S),s.ok=true->∀ d,kQ dh gq d s.tree=s.bp E.bp
 | .set s a,h,d=>by
  simp only [S.ok,aE] at h;rw [S.tree,kQ,List.map_cons,jO a h.2,S.bp];simp [yc]
 | .var s a,h,d=>by
  simp only [S.ok,aE] at h;rw [S.tree,kQ,List.map_cons,jO a h.2,S.bp];simp [yc]
 | .ret a,h,d=>by
  simp only [S.ok] at h;rw [S.tree,kQ,List.map_cons,jO a h,S.bp];simp [yc]
 | .do_ a,h,d=>by
  simp only [S.ok] at h;rw [S.tree,kQ,List.map_cons,jO a h,S.bp];simp [yc]
 | .put s a b,h,d=>by
  simp only [S.ok,aE] at h;rw [S.tree,kQ,List.map_cons,List.map_cons,jO a h.2.1,jO b h.2.2,S.bp];simp [yc]
 | .if1 c b,h,d=>by
  simp only [S.ok,aE] at h;have hb:=vV b h.2 d;rw [S.tree,kQ,List.map_cons,jO c h.1,qM,qM,qM,hb,S.bp];simp [yc,fK]
 | .if2 c b b2,h,d=>by
  simp only [S.ok,aE] at h;have hb:=vV b h.2.1 d;have fv:=vV b2 h.2.2 d;rw [S.tree,kQ,List.map_cons,jO c h.1,qM,qM,qM,qM,hb,fv,S.bp];simp [yc,fK]
 | .while_ c b,h,d=>by
  simp only [S.ok,aE] at h;have hb:=vV b h.2 d;rw [S.tree,kQ,List.map_cons,jO c h.1,qM,qM,qM,hb,S.bp];simp [yc,fK]
theorem vV:∀ (l:List S),S.df l=true->∀ d,nU dh gq d (.mk ⟨14,0,0,[],[]⟩ (S.trees l))=fK E.bp l
 | l,h,d=>by
  rw [nU,KH l h (d+1),gq,EC];rfl
theorem KH:∀ (l:List S),S.df l=true->∀ d,yb dh gq d (S.trees l)=l.map (S.bp E.bp)
 | [],_,d=>by rw [S.trees,yb];rfl
 | a::l,h,d=>by
  simp only [S.df,aE] at h;rw [S.trees,yb,List.map_cons,UN a h.1,KH l h.2]
end
theorem rK {α:Type} {p:α->α->Bool} (h:∀ x,p x x=true):∀ l:List α,fQ p l l=true
 | []=>rfl
 | a::l=>by rw [fQ,h a,rK h l];rfl
theorem zE {α:Type} [BEq α] [LawfulBEq α]:∀ {a b:List α},fQ (fun x y=>x==y) a b=true->a=b
 | [],[],_=>rfl
 | a::r,b::s,h=>by rw [fQ,aE,beq_iff_eq] at h;rw [h.1,zE h.2]
 | [],b::s,h=>by cases h
 | a::r,[],h=>by cases h
theorem JH {α:Type} {p:α->α->Bool}:∀ {a b:List α} {c d:List α},a.length=b.length->fQ p (a++c) (b++d)=(fQ p a b&&fQ p c d)
 | [],[],c,d,_=>rfl
 | a::r,b::s,c,d,h=>by rw [cons_append,cons_append,fQ,fQ,JH (by simpa using h),Bool.and_assoc]
 | [],b::s,_,_,h=>by simp at h
 | a::r,[],_,_,h=>by simp at h
theorem xp:∀ (l:List T) (a:Nat),b9 a (aQ l)=b9 a l
 | [],a=>by rw [aQ]
 | t::r,a=>by rw [aQ,b9,b9,wQ,xp r]
mutual
theorem TU:∀ (t u:T) (a:Nat),er t=er u->fQ lQ (mH a t) (mH a u)=true
 | .mk n l,.mk m k,a,h=>by
  rw [er,er] at h
  injection h with I F
  injection I with h3 h4 h5 h6 h7
  rw [mH,mH,fQ,DG l k (a+1) F,Bool.and_true,<-xp l,<-xp k,F];simp only [lQ,h3,h5,h6];simp [rK]
theorem DG:∀ (l k:List T) (a:Nat),aQ l=aQ k->fQ lQ (eK a l) (eK a k)=true
 | [],[],a,_=>by rw [eK];rfl
 | t::r,u::s,a,h=>by
  rw [aQ,aQ] at h
  injection h with I F
  have hz:aO t=aO u:=by rw [<-wQ t,I,wQ u]
  rw [eK,eK,JH (by rw [JR,JR,hz]),TU t u a I,<-hz,DG r s _ F];rfl
 | [],u::s,a,h=>by rw [aQ,aQ] at h;cases h
 | t::r,[],a,h=>by rw [aQ,aQ] at h;cases h
end
mutual
theorem UK:∀ (t u:T) (a:Nat) (x y:List Nd),fQ lQ (mH a t++x) (mH a u++y)=true->er t=er u/\fQ lQ x y=true
 | .mk n l,.mk m k,a,x,y,h=>by
  rw [mH,mH,cons_append,cons_append,fQ,aE] at h;obtain ⟨I,F⟩:=h;simp only [lQ,aE,beq_iff_eq] at I;obtain ⟨⟨⟨h3,h4⟩,h5⟩,h6⟩:=I;have h7:=congrArg List.length (zE h6);rw [da,da] at h7;obtain ⟨h8,h9⟩:=D9 l k (a+1) x y h7 F;exact ⟨by rw [er,er,h3,h4,h5,h8],h9⟩
theorem D9:∀ (l k:List T) (a:Nat) (x y:List Nd),l.length=k.length->fQ lQ (eK a l++x) (eK a k++y)=true->aQ l=aQ k/\fQ lQ x y=true
 | [],[],a,x,y,_,h=>by rw [eK,nil_append,nil_append] at h;exact ⟨rfl,h⟩
 | t::r,u::s,a,x,y,hl,h=>by
  rw [eK,eK,iw,iw] at h;obtain ⟨I,F⟩:=UK t u a _ _ h
  have hz:aO t=aO u:=by rw [<-wQ t,I,wQ u]
  rw [<-hz] at F;obtain ⟨h3,h4⟩:=D9 r s _ x y (by simpa using hl) F;exact ⟨by rw [aQ,aQ,I,h3],h4⟩
 | [],u::s,a,x,y,hl,h=>by simp at hl
 | t::r,[],a,x,y,hl,h=>by simp at hl
end
theorem UJ {l k:List T} (hl:l.length=k.length) (h:fQ lQ (eK 0 l) (eK 0 k)=true):aQ l=aQ k:=by
 have:=D9 l k 0 [] [] hl (by rw [iy,iy];exact h);exact this.1
structure PS where
 trees:List T
 globals:List ah
 arrays:List Ar
 fns:List (ah × List ah)
def PS.empty:PS:=⟨[],[],[],[]⟩
def pM:Nat->List ah->RS->Option (List ah × RS)
 | 0,_,_=>none
 | f+1,acc,p =>
  if p.code=0/\is p 0 [41]=false then pM f (acc++[(tok (if acc.length=0 then p else want p [44]) 0).s]) (bu (if acc.length=0 then p else want p [44]))
  else some (acc,want p [41])
def iW (f:Nat) (p:RS) (st:PS):Option (RS × PS) :=
 if is p 0 mg=true then
  if (bu p.next).code=0/\is (bu p.next) 0 [91]=true then
   if (tok (bu p.next).next 0).kind=1 then
    some (want (want (bu p.next).next.next [93]) [59],{ st with arrays:=st.arrays++[⟨(tok p.next 0).s,(tok (bu p.next).next 0).n⟩] })
   else some (kX (bu p.next).next,st)
  else some (want (bu p.next) [59],{ st with globals:=st.globals++[(tok p.next 0).s] })
 else if is p 0 nB=true then
  match pM f [] (want (bu p.next) [40]) with
  | none=>none
  | some (l,q) =>
   if q.code=0 then match iS f (.block 1) q with
    | none=>none
    | some (t,q)=>some (q,{ st with trees:=st.trees++[t],fns:=st.fns++[((tok p.next 0).s,l)] })
   else some (q,st)
 else some (kX p,st)
def nY:Nat->Nat->RS->PS->Option (RS × PS)
 | 0,_,_,_=>none
 | g+1,f,p,st =>
  if p.code=0/\p.i < p.l.length then match iW f p st with
   | none=>none
   | some (p,st)=>nY g f p st
  else some (p,st)
theorem Ov:∀ (f:Nat) (acc:List ah) (p:RS) (l:List ah) (q:RS),p.ok->pM f acc p=some (l,q)->p.to q
 | 0,_,_,_,_,_,h=>by cases h
 | f+1,acc,p,l,q,hp,h=>by
  rw [pM] at h;split at h
  ·have I:p.to (if acc.length=0 then p else want p [44]):=by split;exact ky hp;exact cw hp _
   have F:=iL (I.ok hp);have h3:=Ov f _ _ l q ((I.trans F).ok hp) h;exact (I.trans F).trans h3
  ·cases h;exact cw hp _
theorem X3 {f:Nat} {p q:RS} {st ey:PS} (hp:p.ok) (h:iW f p st=some (q,ey)):p.to q:=by
 unfold iW at h;split at h
 ·rename_i hi;have I:=kj hi;have F:=I.trans (iL (I.ok hp));split at h
  ·rename_i hb;have h3:=F.trans (kj hb.2);split at h
   ·rename_i hk
    have mq:(tok (bu p.next).next 0).kind≠0:=by rw [hk];decide
    have h4:=h3.trans (dO (by have:=sO mq;exact this));have h5:=h4.trans (cw (h4.ok hp) [93])
    cases h;exact h5.trans (cw (h5.ok hp) _)
   ·cases h;exact h3.trans (xN (h3.ok hp))
  ·cases h;exact F.trans (cw (F.ok hp) _)
 ·split at h
  ·rename_i hi;have I:=kj hi;have F:=I.trans (iL (I.ok hp));have h3:=F.trans (cw (F.ok hp) [40])
   cases hm:pM f [] (want (bu p.next) [40]) with
   | none=>rw [hm] at h;cases h
   | some r =>
    obtain ⟨l,q1⟩:=r;rw [hm] at h;simp only at h;have h4:=h3.trans (Ov _ _ _ _ _ (h3.ok hp) hm);split at h
    ·cases hb:iS f (.block 1) q1 with
     | none=>rw [hb] at h;cases h
     | some r =>
      obtain ⟨t,q2⟩:=r;rw [hb] at h;cases h;exact h4.trans ((FY f).1 _ _ _ _ (h4.ok hp) hb)
    ·cases h;exact h4
  ·cases h;exact xN hp
structure PS.le (a:PS) (n:Nat):Prop where
 trees:a.trees.length<=n
 globals:a.globals.length<=n
 arrays:a.arrays.length<=n
 fns:a.fns.length=a.trees.length
theorem X1 {f n:Nat} {p q:RS} {st ey:PS} (h:iW f p st=some (q,ey)) (hs:st.le n):ey.le (n+1):=by
 obtain ⟨a,b,c,d⟩:=hs;have key:st.le (n+1):=⟨by omega,by omega,by omega,d⟩;unfold iW at h;split at h
 ·split at h
  ·split at h
   ·cases h;exact ⟨by simp;omega,by simp;omega,by simp;omega,by simp;omega⟩
   ·cases h;exact key
  ·cases h;exact ⟨by simp;omega,by simp;omega,by simp;omega,by simp;omega⟩
 ·split at h
  ·split at h
   ·cases h
   ·split at h
    ·split at h
     ·cases h
     ·cases h;exact ⟨by simp;omega,by simp;omega,by simp;omega,by simp;omega⟩
    ·cases h;exact key
  ·cases h;exact key
end Go.Im
namespace Go.Sp
open Go.Xp
inductive Tz (s:ah):Nat->List Tok->Nat->Prop
 | nil (a:Nat):Tz s a [] a
 | blank {a b:Nat} {c:UInt8} {ts:List Tok} (hc:s[a]?=some c) (hb:dU c=true) (h:Tz s (a+1) ts b):Tz s a ts b
 | tok {a a' b:Nat} {c:UInt8} {t:Tok} {ts:List Tok} (hc:s[a]?=some c) (hb:dU c=false) (hr:bF s a [47,42]=false) (ht:jC s a c=(t,a')) (hk:t.kind=1\/t.kind=2\/t.kind=3) (hn:t.n<=2147483647) (ha:a < a') (h:Tz s a' ts b):Tz s a (t::ts) b
theorem Tz.app {s:ah} {a b c:Nat} {ts us:List Tok} (h:Tz s a ts b) (k:Tz s b us c):Tz s a (ts++us) c:=by
 induction h with
 | nil a=>exact k
 | blank hc hb h ih=>exact .blank hc hb (ih k)
 | tok hc hb hr ht hk hn ha h ih=>exact .tok hc hb hr ht hk hn ha (ih k)
theorem Tz.kinds {s:ah} {a b:Nat} {ts:List Tok} (h:Tz s a ts b):∀ t∈ts,t.kind=1\/t.kind=2\/t.kind=3:=by
 induction h with
 | nil a=>intro t h;cases h
 | blank hc hb h ih=>exact ih
 | tok hc hb hr ht hk hn ha h ih =>
  intro t h
  rcases ei h with rfl | h
  ·exact hk
  ·exact ih t h
theorem Tz.len {s:ah} {a b:Nat} {ts:List Tok} (h:Tz s a ts b):a+ts.length<=b:=by
 induction h with
 | nil a=>simp
 | blank hc hb h ih=>omega
 | tok hc hb hr ht hk hn ha h ih=>simp only [length_cons];omega
theorem Ph (s:ah):∀ (f f' a:Nat),a<=s.length->s.length < f+a->s.length < f'+a->skip s f a=skip s f' a:=by
 intro f
 induction f with
 | zero=>intro f' a I F;omega
 | succ f ih =>
  intro f' a I F h3;obtain ⟨f',rfl⟩:∃ g,f'=g+1:=⟨f' - 1,by omega⟩;rw [skip,skip]
  cases hc:s[a]? with
  | none=>rfl
  | some c =>
   simp only;have ar:=(bh hc).1;split
   ·exact ih f' (a+1) aq aq aq
   ·split
    ·rename_i hb;have hb:=kc hb;have hb:a+2<=s.length:=hb;have h4:=tw s s.length (a+2) hb;have h5:=si s s.length (a+2) hb aq;split
     ·rfl
     ·rename_i hn
      have h6:bF s (fF s s.length (a+2)) [42,47]=true:=by
       cases qx:bF s (fF s s.length (a+2)) [42,47] with
       | true=>rfl
       | false=>exact absurd ⟨by omega,qx⟩ h5
      have h6:=kc h6;have h6:fF s s.length (a+2)+2<=s.length:=h6;exact ih f' _ aq aq aq
    ·rfl
theorem Tz.jr {s:ah} {a b:Nat} {ts:List Tok} (h:Tz s a ts b):∀ (f:Nat) (acc:List Tok),rn s (f+ts.length) (skip s (s.length+1) a).1 acc=rn s f (skip s (s.length+1) b).1 (acc++ts):=by
 induction h with
 | nil a=>intro f acc;simp
 | blank hc hb h ih =>
  rename_i a b c ts;intro f acc;have ar:=(bh hc).1;rw [<-ih f acc]
  have:skip s (s.length+1) a=skip s (s.length+1) (a+1):=by
   rw [skip,hc];simp only;rw [ae hb];exact Ph s _ _ _ aq aq aq
  rw [this]
 | tok hc hb hr ht hk hn ha h ih =>
  rename_i a a' b c t ts;intro f acc
  have:skip s (s.length+1) a=(a,-1):=by
   rw [skip,hc];simp only;rw [ab (by rw [hb];decide),ab (by rw [hr];decide)]
  rw [this,length_cons,<-gW,rn,hc];simp only [ht];rw [ih f (acc++[t]),iw];rfl
theorem Tz.all {s:ah} {ts:List Tok} (h:Tz s 0 ts s.length):Go.Sp.jr s=some ts:=by
 have I:=h.len;have F:=h.jr (s.length+2 - ts.length) [];unfold Go.Sp.jr;rw [show s.length+2 - ts.length+ts.length=s.length+2 by omega] at F;rw [F]
 have h3:skip s (s.length+1) s.length=(s.length,-1):=by rw [skip];simp
 rw [h3];obtain ⟨g,hg⟩:∃ g,s.length+2 - ts.length=g+1:=⟨s.length+1 - ts.length,by omega⟩;rw [hg,rn];simp
theorem nF {s r:ah} {a:Nat} {c:UInt8} (h:s.drop a=c::r):s[a]?=some c/\s.drop (a+1)=r/\a < s.length:=by
 have I:s[a]?=some c:=by
  have:=List.getElem?_drop (xs:=s) (i:=a) (j:=0);rw [h] at this;simpa using this.symm
 refine ⟨I,?_,(bh I).1⟩;rw [<-List.tail_drop,h];rfl
theorem UG (s:ah) (p:UInt8->Bool):∀ (w post:ah) (f a:Nat),s.drop a=w++post->(∀ c∈w,p c=true)->run s p (f+w.length) a=run s p f (a+w.length):=by
 intro w
 induction w with
 | nil=>intro post f a h hp;rfl
 | cons c w ih =>
  intro post f a h hp;obtain ⟨I,F,_⟩:=nF h;rw [length_cons,<-gW,run,I];simp only;rw [ae (hp c (mem_cons_self)),ih post f (a+1) F (fun c hc=>hp c (cV _ hc))]
  congr 1;omega
theorem Rn (s:ah) (p:UInt8->Bool) (post:ah) (f a:Nat) (h:s.drop a=post) (hp:∀ c,post.head?=some c->p c=false):run s p f a=a:=by
 cases f with
 | zero=>rfl
 | succ f =>
  rw [run]
  cases post with
  | nil =>
   have:s[a]?=none:=by
    rw [List.getElem?_eq_none_iff];have:=congrArg List.length h;simp at this;omega
   rw [this]
  | cons c r =>
   obtain ⟨I,_,_⟩:=nF h;rw [I];simp only;rw [ab (by rw [hp c rfl];decide)]
theorem take_drop {s w post:ah} {a:Nat} (h:s.drop a=w++post):(s.take (a+w.length)).drop a=w:=by
 rw [List.drop_take,h,Nat.add_sub_cancel_left,List.take_left]
theorem HD {s w post:ah} {a:Nat} (h:s.drop a=w++post) (ha:a<=s.length):a+w.length+post.length=s.length:=by
 have:=congrArg List.length h;simp only [iM,aZ] at this;omega
theorem RW {s w post:ah} {a:Nat} {c:UInt8} {r:ah} (ha:a<=s.length) (h:s.drop a=w++post) (hw:w=c::r) (hs:small c=true) (aY:∀ c∈w,et c=true) (hp:∀ c,post.head?=some c->et c=false) :
  jC s a c=(⟨if words.contains w=true then 3 else 2,0,w,a⟩,a+w.length):=by
 have hl:=HD h ha
 have he:fc s a=a+w.length:=by
  unfold fc;obtain ⟨g,hg⟩:∃ g,s.length+1=g+w.length:=⟨s.length+1 - w.length,by omega⟩;rw [hg,UG s et w post g a h aY];refine Rn s et post g _ ?_ hp;rw [<-List.drop_drop,h,drop_left]
 have hd:eD c=false:=by
  simp only [small,eD,aE] at hs |-;have I:=lS hs.1
  have:¬ ((c.toNat:Int)<=57):=by omega
  simp [this]
 unfold jC;rw [ab (by rw [hd];decide),ae hs];unfold fO;rw [he,take_drop h]
def fold (n:Int) (w:ah):Int:=w.foldl (fun n c=>if n<=2147483647 then n * 10+((c.toNat:Int) - 48) else n) n
theorem Ma (s:ah):∀ (w post:ah) (f:Nat) (n:Int) (a:Nat),s.drop a=w++post->(∀ c∈w,eD c=true)->number s (f+w.length) n a=number s f (fold n w) (a+w.length):=by
 intro w
 induction w with
 | nil=>intro post f n a h hp;rfl
 | cons c w ih =>
  intro post f n a h hp;obtain ⟨I,F,_⟩:=nF h;rw [length_cons,<-gW,number,I];simp only;rw [ae (hp c (mem_cons_self)),ih post f _ (a+1) F (fun c hc=>hp c (cV _ hc))];rw [show a+1+w.length=a+(w.length+1) by omega];rfl
theorem I9 (s:ah) (post:ah) (f:Nat) (n:Int) (a:Nat) (h:s.drop a=post) (hp:∀ c,post.head?=some c->eD c=false):number s f n a=(n,a):=by
 cases f with
 | zero=>rfl
 | succ f =>
  rw [number]
  cases post with
  | nil =>
   have:s[a]?=none:=by
    rw [List.getElem?_eq_none_iff];have:=congrArg List.length h;simp at this;omega
   rw [this]
  | cons c r =>
   obtain ⟨I,_,_⟩:=nF h;rw [I];simp only;rw [ab (by rw [hp c rfl];decide)]
theorem Nn (k:Nat) (h:k<=9):eD (UInt8.ofNat (48+k))=true/\((UInt8.ofNat (48+k)).toNat:Int)=48+k:=by
 have:(UInt8.ofNat (48+k)).toNat=48+k:=by simp;omega
 refine ⟨?_,by rw [this];omega⟩;simp only [eD,aE,this];exact ⟨decide_eq_true aq,decide_eq_true aq⟩
theorem JC (n:Nat):(∀ c∈eI n,eD c=true)/\(n<=2147483647->fold 0 (eI n)=n)/\eI n≠[]:=by
 induction n using Nat.strongRecOn with
 | _ n ih =>
 unfold eI
 by_cases h:n < 10
 ·rw [dif_pos h];obtain ⟨I,F⟩:=Nn n aq;refine ⟨fun c hc=>by rw [mem_singleton] at hc;subst hc;exact I,fun _=>?_,by simp⟩;simp only [fold,foldl_cons,List.foldl_nil];rw [ae aq,F];omega
 ·rw [dif_neg h];obtain ⟨I,F,h3⟩:=ih (n / 10) aq;obtain ⟨h4,h5⟩:=Nn (n % 10) aq;refine ⟨fun c hc=>?_,fun hn=>?_,by simp⟩
  ·rcases qp hc with hc | hc
   ·exact I c hc
   ·rw [mem_singleton] at hc;subst hc;exact h4
  ·have:=F aq;unfold fold at this |-;rw [List.foldl_append,this];simp only [foldl_cons,List.foldl_nil];rw [ae aq,h5];omega
theorem Uv {s post:ah} {n a:Nat} {c:UInt8} {r:ah} (ha:a<=s.length) (h:s.drop a=eI n++post) (hw:eI n=c::r) (hn:n<=2147483647) (hp:∀ c,post.head?=some c->eD c=false) :
  jC s a c=(⟨1,n,[],a⟩,a+(eI n).length):=by
 obtain ⟨I,F,h3⟩:=JC n;have hl:=HD h ha;have hd:eD c=true:=I c (by rw [hw];exact mem_cons_self);obtain ⟨g,hg⟩:∃ g,s.length+1=g+(eI n).length:=⟨s.length+1 - (eI n).length,by omega⟩;unfold jC;rw [ae hd,hg,Ma s (eI n) post g 0 a h I,F hn,I9 s post g _ _ (by rw [<-List.drop_drop,h,drop_left]) hp]
theorem vC {s r t:ah} {a:Nat} (h:s.drop a=r) (ha:a<=s.length):bF s a t=t.isPrefixOf r:=by
 have hl:a+r.length=s.length:=by have:=congrArg List.length h;simp at this;omega
 unfold bF;rw [List.drop_take,h,Nat.add_sub_cancel_left]
 by_cases hp:t <+: r
 ·obtain ⟨z,rfl⟩:=hp;simp only [aZ] at hl
  have F:t.isPrefixOf (t++z)=true:=by rw [List.isPrefixOf_iff_prefix];exact ⟨z,rfl⟩
  rw [F,List.take_left];simp only [aE,beq_self_eq_true,and_true,decide_eq_true_eq];omega
 ·have I:t.isPrefixOf r=false:=by
   cases hh:t.isPrefixOf r with
   | false=>rfl
   | true=>exact absurd (List.isPrefixOf_iff_prefix.1 hh) hp
  rw [I]
  have F:(r.take t.length==t)=false:=by
   rw [beq_eq_false_iff_ne];intro h3;exact hp ⟨r.drop t.length,by have:=take_append_drop t.length r;rw [h3] at this;exact this⟩
  rw [F,Bool.and_false]
def D7:List UInt8:=[32,40,41,91,93,44,59,123,125,10]
def Sep (post:ah):Prop:=∀ c,post.head?=some c->c∈D7
theorem Sep.et {post:ah} (h:Sep post):∀ c,post.head?=some c->et c=false:=by
 intro c hc
 have:∀ c∈D7,Go.Sp.et c=false:=by decide
 exact this c (h c hc)
theorem Sep.eD {post:ah} (h:Sep post):∀ c,post.head?=some c->eD c=false:=by
 intro c hc
 have:∀ c∈D7,Go.Sp.eD c=false:=by decide
 exact this c (h c hc)
theorem Uz {x y z:ah} (h:x.length<=y.length):x.isPrefixOf (y++z)=x.isPrefixOf y:=by
 induction x generalizing y with
 | nil=>simp
 | cons a x ih =>
  cases y with
  | nil=>simp at h
  | cons b y=>simp only [cons_append,List.isPrefixOf];rw [ih (by simpa using h)]
theorem find_congr {α:Type} {p q:α->Bool}:∀ {l:List α},(∀ x∈l,p x=q x)->l.find? p=l.find? q
 | [],_=>rfl
 | a::l,h=>by rw [List.find?_cons,List.find?_cons,h a (mem_cons_self),find_congr (fun x hx=>h x (cV _ hx))]
theorem Rv {s w post:ah} {a:Nat} {c:UInt8} {r:ah} (ha:a<=s.length) (h:s.drop a=w++post) (hw:w=c::r) (hm:w∈bQ) (hp:Sep post) :
  jC s a c=(⟨3,0,w,a⟩,a+w.length)/\dU c=false/\bF s a [47,42]=false:=by
 have hd:∀ w∈bQ,∀ c,w.head?=some c->eD c=false/\small c=false/\dU c=false:=by
  have:∀ w∈bQ,(match w.head? with | some c=>!eD c&&!small c&&!dU c | none=>true)=true:=by decide
  intro w hw c hc;have:=this w hw;rw [hc] at this;simp only [aE,Bool.not_eq_true'] at this;exact ⟨this.1.1,this.1.2,this.2⟩
 obtain ⟨I,F,h3⟩:=hd w hm c (by rw [hw];rfl)
 have LD:∀ w∈bQ,w.length<=2/\1<=w.length:=by decide
 have key:∀ w∈bQ,bQ.find? (fun x=>x.isPrefixOf w)=some w/\[47,42].isPrefixOf w=false:=by decide
 have aat:∀ w∈bQ,∀ c∈D7,bQ.find? (fun x=>x.isPrefixOf (w++[c]))=some w/\[47,42].isPrefixOf (w++[c])=false:=by decide
 have hf:bQ.find? (bF s a)=some w/\bF s a [47,42]=false:=by
  have e1:∀ x,bF s a x=x.isPrefixOf (w++post):=fun x=>vC h ha
  have e2:bQ.find? (bF s a)=bQ.find? (fun x=>x.isPrefixOf (w++post)):=find_congr fun x _=>e1 x
  rw [e2,e1]
  cases post with
  | nil=>rw [iy];exact key w hm
  | cons c' post =>
   have dK:=hp c' rfl
   have e3:∀ x:ah,x.length<=2->x.isPrefixOf (w++c'::post)=x.isPrefixOf (w++[c']):=fun x hx=>by
    rw [show w++c'::post=(w++[c'])++post by simp];exact Uz (by rw [aZ];have:=(LD w hm).2;simp;omega)
   rw [find_congr fun x hx=>e3 x (LD x hx).1,e3 _ aw];exact aat w hm c' dK
 refine ⟨?_,h3,hf.2⟩;unfold jC;rw [ab (by rw [I];decide),ab (by rw [F];decide),hf.1]
theorem Qr {s post:ah} {a:Nat} {c:UInt8} (ha:a<=s.length) (h:s.drop a=c::post) (hm:c∈[40,41,91,93,44,59,123,125]) :
  jC s a c=(⟨3,0,[c],a⟩,a+1)/\dU c=false/\bF s a [47,42]=false:=by
 have hd:∀ c∈([40,41,91,93,44,59,123,125]:List UInt8),eD c=false/\small c=false/\dU c=false/\c≠47:=by decide
 obtain ⟨I,F,h3,h4⟩:=hd c hm
 have e1:∀ x,bF s a x=x.isPrefixOf (c::post):=fun x=>vC h ha
 have e2:bQ.find? (bF s a)=bQ.find? (fun x=>x.isPrefixOf (c::post)):=find_congr fun x _=>e1 x
 have key:∀ post:ah,∀ c∈([40,41,91,93,44,59,123,125]:List UInt8),bQ.find? (fun x=>x.isPrefixOf (c::post))=some [c]:=by
  intro post c hc;simp only [List.mem_cons,List.not_mem_nil,or_false] at hc
  rcases hc with rfl | rfl | rfl | rfl | rfl | rfl | rfl | rfl <;> rfl
 refine ⟨?_,h3,?_⟩
 ·unfold jC;rw [ab (by rw [I];decide),ab (by rw [F];decide),e2,key post c hm];rfl
 ·rw [e1];simp only [List.isPrefixOf]
  have:((47:UInt8)==c)=false:=by rw [beq_eq_false_iff_ne];exact fun h=>h4 h.symm
  rw [this,Bool.false_and]
end Go.Sp
namespace Go.Im
open Go.Xp Go.Sp
def my:List ah:=[[105,110,116],[118,97,114],[102,117,110,99],[105,102],[101,108,115,101],[119,104,105,108,101],[114,101,116,117,114,110],[124,124],[38,38],[61,61],[33,61],[60,61],[62,61],[60,60],[62,62],[40],[41],[123],[125],[91],[93],[44],[59],[61],[60],[62],[43],[45],[42],[47],[37],[38],[124],[94],[33],[126]]
theorem zg:my=words++bQ:=by decide
def kK (s:ah):Bool:=my.contains s
def kO:ah->Int->Int
 | [],n=>n
 | c::r,n=>if n<=2147483647 then kO r (10 * n+((c.toNat:Int) - 48)) else n
def cW (s:ah) (a b:Nat):ah:=(s.take b).drop a
def iu (s:ah) (a:Nat) (k:Nat):Bool:=decide (a+k<=s.length)&&(match s[a]? with | some c=>!(small c) | none=>false)&&kK (cW s a (a+k))
def gP (s:ah) (a:Nat):ah:=if iu s a 2=true then cW s a (a+2) else if iu s a 1=true then cW s a (a+1) else []
def kA (s:ah) (a:Nat):Nat:=run s eD (s.length+1) a
def rl:Tok:=⟨0,0,[],0⟩
def lp (s:ah) (a:Nat) (c:UInt8):Tok × Nat × Int :=
 if eD c=true then
  if kO (cW s a (kA s a)) 0 > 2147483647 then (rl,a,3) else (⟨1,kO (cW s a (kA s a)) 0,[],a⟩,kA s a,0)
 else if small c=true then (⟨if kK (fO s a)=true then 3 else 2,0,fO s a,a⟩,fc s a,0)
 else if gP s a=[] then (rl,a,2)
 else (⟨3,0,gP s a,a⟩,a+(gP s a).length,0)
def qV:ah->Option Nat
 | []=>none
 | b::l=>if List.isPrefixOf [42,47] (b::l) then some 0 else match qV l with | none=>none | some n=>some (n+1)
def nQ (s:ah):Nat->Nat->List Tok->Option (List Tok × Int × Int)
 | 0,_,_=>none
 | f+1,a,acc=>match s[a]? with
  | none=>some (acc,0,0)
  | some c =>
   if dU c=true then nQ s f (a+1) acc
   else if bF s a [47,42]=true then
    match qV (s.drop (a+2)) with
    | none=>some ([],4,a)
    | some n=>nQ s f (a+(n+4)) acc
   else if (lp s a c).2.2≠0 then some ([],(lp s a c).2.2,a)
   else nQ s f (lp s a c).2.1 (acc++[(lp s a c).1])
structure Cj (t:Tok):Prop where
 num:t.kind=1->0<=t.n/\t.n<=2147483647/\t.s=[]
 name:t.kind=2->word t.s=true/\kK t.s=false
 sign:t.kind=3->kK t.s=true
 kinds:t.kind=1\/t.kind=2\/t.kind=3
theorem lV {s:ah} {a b:Nat} (h:b<=s.length):(cW s a b).length=b - a:=by
 unfold cW;rw [iM,fV];omega
theorem qu {s:ah} {a b:Nat} {c:UInt8} (h:s[a]?=some c) (hb:a < b) (hl:b<=s.length):cW s a b=c::cW s (a+1) b:=by
 unfold cW;have ar:=(bh h).1
 have:(s.take b)[a]?=some c:=by rw [getElem?_take,ae hb];exact h
 have F:=(bh this);rw [nl F.1,F.2]
theorem D5 (s:ah) (p:UInt8->Bool):∀ (f a:Nat),a<=s.length->∀ c∈cW s a (run s p f a),p c=true:=by
 intro f
 induction f with
 | zero =>
  intro a ha c hc;rw [Go.Sp.run] at hc
  have:(cW s a a).length=0:=by rw [lV ha];omega
  rw [gQ this] at hc;cases hc
 | succ f ih =>
  intro a ha c hc;rw [Go.Sp.run] at hc
  have Hh:∀ x:ah,x=cW s a a->c∈x->p c=true:=fun x hx hm=>by
   have:(cW s a a).length=0:=by rw [lV ha];omega
   rw [hx,gQ this] at hm;cases hm
  cases hq:s[a]? with
  | none=>rw [hq] at hc;exact Hh _ rfl hc
  | some d =>
   rw [hq] at hc;simp only at hc;have ar:=(bh hq).1
   by_cases hp:p d=true
   ·rw [ae hp] at hc
    have ko:a+1<=Go.Sp.run s p f (a+1)/\Go.Sp.run s p f (a+1)<=s.length:=by
     have:∀ (f a:Nat),a<=s.length->a<=Go.Sp.run s p f a/\Go.Sp.run s p f a<=s.length:=by
      intro f
      induction f with
      | zero=>intro a h;exact ⟨aH _,h⟩
      | succ f ih =>
       intro a h;rw [Go.Sp.run]
       cases hq:s[a]? with
       | none=>exact ⟨aH _,h⟩
       | some d =>
        simp only;split
        ·have:=ih (a+1) (bh hq).1;omega
        ·exact ⟨aH _,h⟩
     exact this f (a+1) ar
    rw [qu hq aq ko.2] at hc
    rcases ei hc with rfl | hc
    ·exact hp
    ·exact ih (a+1) ar c hc
   ·rw [ab hp] at hc;exact Hh _ rfl hc
theorem Kq:∀ (w:ah) (n:Int),0<=n->(∀ c∈w,eD c=true)->0<=kO w n
 | [],n,h,_=>h
 | c::r,n,h,hd=>by
  rw [kO];have hc:=hd c (mem_cons_self);simp only [eD,aE,decide_eq_true_eq] at hc;split
  ·exact Kq r _ aq (fun c hc=>hd c (cV _ hc))
  ·exact h
theorem QK {x:ah} (h:kK x=true):x≠[]:=by
 intro h0;subst h0;revert h;decide
theorem KS {s:ah} {a:Nat} {c:UInt8} (hc:s[a]?=some c) (h0:(lp s a c).2.2=0):Cj (lp s a c).1/\(lp s a c).1.at_=a/\a < (lp s a c).2.1/\(lp s a c).2.1<=s.length:=by
 have ar:=(bh hc).1;unfold lp at h0 |-
 by_cases hd:eD c=true
 ·rw [ae hd] at h0 |-
  by_cases hn:kO (cW s a (kA s a)) 0 > 2147483647
  ·rw [ae hn] at h0;cases h0
  ·rw [ab hn];obtain ⟨e1,e2,e3⟩:=qD s eD (s.length+1) a aq aq
   have lf:a < kA s a:=by
    rcases Nat.lt_or_ge a (kA s a) with h | h
    ·exact h
    ·have he:Go.Sp.run s eD (s.length+1) a=a:=by unfold kA at h;omega
     have:=e1 c (by rw [he];exact hc);rw [hd] at this;cases this
   refine ⟨⟨fun _=>⟨Kq _ _ aw (D5 s eD _ a aq),by simpa using hn,rfl⟩,fun h=>by simp at h,fun h=>by simp at h,.inl rfl⟩,rfl,lf,e3⟩
 ·rw [ab hd] at h0 |-
  by_cases hs:small c=true
  ·rw [ae hs];obtain ⟨e1,e2,e3⟩:=qD s et (s.length+1) a aq aq
   have vm:et c=true:=by simp [et,hs]
   have lf:a < fc s a:=by
    rcases Nat.lt_or_ge a (fc s a) with h | h
    ·exact h
    ·have he:Go.Sp.run s et (s.length+1) a=a:=by unfold fc at h;omega
     have:=e1 c (by rw [he];exact hc);rw [vm] at this;cases this
   have hw:word (fO s a)=true:=by
    have I:fO s a=c::cW s (a+1) (fc s a):=qu hc lf e3;have F:=D5 s et (s.length+1) a aq;unfold word;have h3:(fO s a).all et=true:=fE.2 F;rw [h3,I];simp [hs]
   refine ⟨⟨fun h=>?_,fun h=>⟨hw,?_⟩,fun h=>?_,?_⟩,rfl,lf,e3⟩
   ·simp only at h;split at h <;> cases h
   ·simp only at h;split at h
    ·cases h
    ·rename_i hh;simpa using hh
   ·simp only at h;split at h
    ·assumption
    ·cases h
   ·simp only;split
    ·exact .inr (.inr rfl)
    ·exact .inr (.inl rfl)
  ·rw [ab hs] at h0 |-
   by_cases hg:gP s a=[]
   ·rw [ae hg] at h0;cases h0
   ·rw [ab hg]
    have key:kK (gP s a)=true/\a+(gP s a).length<=s.length:=by
     unfold gP at hg |-
     have aux:∀ k,iu s a k=true->kK (cW s a (a+k))=true/\a+(cW s a (a+k)).length<=s.length:=fun k h=>by
      simp only [iu,aE,decide_eq_true_eq] at h;refine ⟨h.2,?_⟩;rw [lV h.1.1];have:=h.1.1;omega
     split
     ·exact aux 2 (by assumption)
     ·rename_i F;rw [ab F] at hg;split
      ·exact aux 1 (by assumption)
      ·rename_i I;rw [ab I] at hg;exact absurd rfl hg
    have hl:=List.length_pos_iff.2 (QK key.1);exact ⟨⟨fun h=>by simp at h,fun h=>by simp at h,fun _=>key.1,.inr (.inr rfl)⟩,rfl,by simp only;omega,key.2⟩
theorem DP:∀ {l:ah} {n:Nat},qV l=some n->n+2<=l.length
 | [],n,h=>by cases h
 | b::l,n,h=>by
  rw [qV] at h;split at h
  ·rename_i hp;cases h
   cases l with
   | nil=>simp [List.isPrefixOf] at hp
   | cons d l=>simp
  ·cases hq:qV l with
   | none=>rw [hq] at h;cases h
   | some m=>rw [hq] at h;cases h;have:=DP hq;simp only [length_cons];omega
theorem sK (s:ah):∀ (f a:Nat) (acc:List Tok),a<=s.length->s.length < f+a->(∀ t∈acc,Cj t)->(acc.Pairwise fun x y=>x.at_ < y.at_)->(∀ t∈acc,t.at_ < (a:Int))->acc.length<=a ->
  ∃ ts c z,nQ s f a acc=some (ts,c,z)/\(∀ t∈ts,Cj t)/\(ts.Pairwise fun x y=>x.at_ < y.at_)/\ts.length<=s.length
 | 0,a,acc,I,F,_,_,_,_=>by omega
 | f+1,a,acc,I,F,h3,h4,h5,h6=>by
  rw [nQ]
  cases hc:s[a]? with
  | none=>exact ⟨acc,0,0,rfl,h3,h4,by omega⟩
  | some c =>
   simp only;have ar:=(bh hc).1;split
   ·exact sK s f (a+1) acc aq aq h3 h4 (fun t ht=>by have:=h5 t ht;omega) aq
   ·split
    ·rename_i hb;have nV:=kc hb;simp only [length_cons,length_nil] at nV
     cases hi:qV (s.drop (a+2)) with
     | none=>exact ⟨[],4,a,rfl,fun t h=>by simp at h,.nil,aX _⟩
     | some n =>
      have:=DP hi;rw [iM] at this;exact sK s f (a+(n+4)) acc aq aq h3 h4 (fun t ht=>by have:=h5 t ht;omega) aq
    ·split
     ·exact ⟨[],_,a,rfl,fun t h=>by simp at h,.nil,aX _⟩
     ·rename_i h0;obtain ⟨k1,k2,k3,k4⟩:=KS hc (by simpa using h0);refine sK s f _ _ k4 aq (fun t ht=>?_) ?_ (fun t ht=>?_) (by rw [aZ];simp only [length_cons,length_nil];omega)
      ·rcases qp ht with h | h
       ·exact h3 t h
       ·rw [mem_singleton] at h;subst h;exact k1
      ·rw [List.pairwise_append];refine ⟨h4,List.pairwise_singleton _ _,fun x hx y hy=>?_⟩;rw [mem_singleton] at hy;subst hy;rw [k2];exact h5 x hx
      ·rcases qp ht with h | h
       ·have:=h5 t h;omega
       ·rw [mem_singleton] at h;subst h;rw [k2];omega
theorem AO (s:ah):∀ (f:Nat) (n:Int) (a:Nat),a<=s.length->s.length < f+a->kO (cW s a (number s f n a).2) n=(number s f n a).1
 | 0,n,a,I,F=>by omega
 | f+1,n,a,I,F=>by
  have Hh:cW s a a=[]:=gQ (by rw [lV I];omega);rw [number]
  cases hc:s[a]? with
  | none=>simp only;rw [Hh,kO]
  | some c =>
   simp only;have ar:=(bh hc).1
   by_cases hd:eD c=true
   ·rw [ae hd];obtain ⟨e1,e2,e3⟩:=xE s f (if n<=2147483647 then n * 10+((c.toNat:Int) - 48) else n) (a+1) aq aq;rw [qu hc aq e3,kO];have ih:=AO s f (if n<=2147483647 then n * 10+((c.toNat:Int) - 48) else n) (a+1) aq aq
    by_cases hn:n<=2147483647
    ·rw [ae hn] at ih |-;rw [ae hn,Int.mul_comm 10 n];exact ih
    ·rw [ab hn] at ih |-;rw [ab hn];rw [<-ih]
     cases hw:cW s (a+1) (number s f n (a+1)).2 with
     | nil=>rw [kO]
     | cons d r=>rw [kO,ab hn]
   ·rw [ab hd];simp only;rw [Hh,kO]
theorem C1 (s:ah):∀ (f:Nat) (n:Int) (a:Nat),(number s f n a).2=Go.Sp.run s eD f a
 | 0,n,a=>rfl
 | f+1,n,a=>by
  rw [number,Go.Sp.run]
  cases hc:s[a]? with
  | none=>rfl
  | some c =>
   simp only;split
   ·exact C1 s f _ (a+1)
   ·rfl
theorem oN {s x:ah} {a:Nat}:bF s a x=(decide (a+x.length<=s.length)&&(cW s a (a+x.length)==x)):=rfl
theorem Ml {s:ah} {a:Nat} {c:UInt8} (hc:s[a]?=some c) (hs:small c=false):gP s a=(match bQ.find? (bF s a) with | some x=>x | none=>[]):=by
 have ar:=(bh hc).1
 have F:∀ x∈bQ,x.length=1\/x.length=2:=by decide
 have CK:bQ=bQ.take 8++bQ.drop 8:=(take_append_drop 8 bQ).symm
 have kE:∀ x∈bQ.take 8,x.length=2:=by decide
 have gX:∀ x∈bQ.drop 8,x.length=1:=by decide
 have hw:∀ x∈words,∃ d r,x=d::r/\small d=true:=by
  intro x hx
  have:∀ x∈words,(match x with | d::_=>small d | []=>false)=true:=by decide
  have:=this x hx
  cases x with
  | nil=>cases this
  | cons d r=>exact ⟨d,r,rfl,this⟩
 have Qx:∀ k,1<=k->a+k<=s.length->cW s a (a+k)=c::cW s (a+1) (a+k):=fun k I F=>qu hc aq F
 have ek:∀ k,1<=k->a+k<=s.length->(kK (cW s a (a+k))=true↔cW s a (a+k)∈bQ):=fun k I F=>by
  unfold kK;rw [zg,ej,mem_append];refine ⟨fun h=>h.resolve_left fun hm=>?_,.inr⟩;obtain ⟨d,r,e1,e2⟩:=hw _ hm;rw [Qx k I F] at e1
  cases e1;rw [hs] at e2;cases e2
 have LJ:∀ k,1<=k->(iu s a k=true↔a+k<=s.length/\cW s a (a+k)∈bQ):=fun k I=>by
  unfold iu;rw [hc];simp only [hs,Bool.not_false,Bool.and_true,aE,decide_eq_true_eq];exact ⟨fun ⟨p,q⟩=>⟨p,(ek k I p).1 q⟩,fun ⟨p,q⟩=>⟨p,(ek k I p).2 q⟩⟩
 have DM:∀ k,1<=k->k<=2->a+k<=s.length->cW s a (a+k)∈bQ->(cW s a (a+k)).length=k:=fun k _ _ h _=>by rw [lV h];omega
 unfold gP
 by_cases t2:iu s a 2=true
 ·rw [ae t2];obtain ⟨p,q⟩:=(LJ 2 aw).1 t2
  have hq:cW s a (a+2)∈bQ.take 8:=by
   rw [CK] at q
   rcases qp q with h | h
   ·exact h
   ·have:=gX _ h;rw [lV p] at this;omega
  rw [CK,List.find?_append]
  have:(bQ.take 8).find? (bF s a)=some (cW s a (a+2)):=by
   cases hf:(bQ.take 8).find? (bF s a) with
   | none =>
    rw [find?_eq_none] at hf;have I:=hf _ hq;rw [oN,lV p,show a+(a+2 - a)=a+2 by omega] at I;simp [p] at I
   | some x =>
    have I:=List.find?_some hf;have h3:=kE x (List.mem_of_find?_eq_some hf);rw [oN,h3] at I;simp only [aE,beq_iff_eq] at I;rw [I.2]
  rw [this];rfl
 ·rw [ab t2]
  have aad:(bQ.take 8).find? (bF s a)=none:=by
   rw [find?_eq_none];intro x hx hb;rw [oN,kE x hx] at hb;simp only [aE,beq_iff_eq,decide_eq_true_eq] at hb;exact t2 ((LJ 2 aw).2 ⟨hb.1,by rw [hb.2];exact List.mem_of_mem_take hx⟩)
  rw [CK,List.find?_append,aad]
  by_cases t1:iu s a 1=true
  ·rw [ae t1];obtain ⟨p,q⟩:=(LJ 1 aw).1 t1
   have hq:cW s a (a+1)∈bQ.drop 8:=by
    rw [CK] at q
    rcases qp q with h | h
    ·have:=kE _ h;rw [lV p] at this;omega
    ·exact h
   have:(bQ.drop 8).find? (bF s a)=some (cW s a (a+1)):=by
    cases hf:(bQ.drop 8).find? (bF s a) with
    | none =>
     rw [find?_eq_none] at hf;have I:=hf _ hq;rw [oN,lV p,show a+(a+1 - a)=a+1 by omega] at I;simp [p] at I
    | some x =>
     have I:=List.find?_some hf;have h3:=gX x (List.mem_of_find?_eq_some hf);rw [oN,h3] at I;simp only [aE,beq_iff_eq] at I;rw [I.2]
   rw [this];rfl
  ·rw [ab t1]
   have:(bQ.drop 8).find? (bF s a)=none:=by
    rw [find?_eq_none];intro x hx hb;rw [oN,gX x hx] at hb;simp only [aE,beq_iff_eq,decide_eq_true_eq] at hb;exact t1 ((LJ 1 aw).2 ⟨hb.1,by rw [hb.2];exact List.mem_of_mem_drop hx⟩)
   rw [this];rfl
theorem UZ {s:ah} {a a':Nat} {c:UInt8} {t:Tok} (hc:s[a]?=some c) (h:jC s a c=(t,a')) (hk:t.kind=1\/t.kind=2\/t.kind=3) (hn:t.n<=2147483647):lp s a c=(t,a',0):=by
 have ar:=(bh hc).1;unfold jC at h;unfold lp
 by_cases hd:eD c=true
 ·rw [ae hd] at h |-;cases h;have e1:kA s a=(number s (s.length+1) 0 a).2:=(C1 s _ 0 a).symm;rw [e1,AO s _ 0 a aq aq,ab (by simpa using hn)]
 ·rw [ab hd] at h |-
  by_cases hs:small c=true
  ·rw [ae hs] at h |-;cases h
   have Hs:∃ r,fO s a=c::r\/fO s a=[]:=by
    cases hw:fO s a with
    | nil=>exact ⟨[],.inr rfl⟩
    | cons d r =>
     obtain ⟨e1,e2,e3⟩:=qD s et (s.length+1) a aq aq
     have vm:et c=true:=by simp [et,hs]
     have lf:a < fc s a:=by
      rcases Nat.lt_or_ge a (fc s a) with h | h
      ·exact h
      ·have he:Go.Sp.run s et (s.length+1) a=a:=by unfold fc at h;omega
       have:=e1 c (by rw [he];exact hc);rw [vm] at this;cases this
     have I:fO s a=c::cW s (a+1) (fc s a):=qu hc lf e3;rw [hw] at I;cases I;exact ⟨_,.inl rfl⟩
   have ek:kK (fO s a)=words.contains (fO s a):=by
    unfold kK;rw [zg]
    have CI:∀ x∈bQ,(match x with | d::_=>small d | []=>true)=false:=by decide
    obtain ⟨r,I⟩:=Hs
    have:bQ.contains (fO s a)=false:=by
     cases iX:bQ.contains (fO s a) with
     | false=>rfl
     | true =>
      have:=CI _ (ej.1 iX)
      rcases I with I | I <;> rw [I] at this <;> simp only at this
      ·rw [hs] at this;cases this
      ·cases this
    rw [Bool.eq_iff_iff,ej,mem_append,<-ej (as:=bQ),this];simp
   rw [ek]
  ·rw [ab hs] at h |-;rw [Ml hc (by simpa using hs)]
   cases hf:bQ.find? (bF s a) with
   | none=>rw [hf] at h;cases h;simp at hk
   | some x =>
    rw [hf] at h;cases h;simp only;have hx:=List.mem_of_find?_eq_some hf
    have cj:x≠[]:=by
     intro h0;subst h0;revert hx;decide
    rw [ab cj]
theorem Um {s:ah} {a b:Nat} {ts:List Tok} (h:Tz s a ts b):b=s.length->∀ (f:Nat) (acc:List Tok),s.length < f+a->nQ s f a acc=some (acc++ts,0,0):=by
 induction h with
 | nil a =>
  intro hb f acc hf
  cases f with
  | zero=>omega
  | succ f =>
   rw [nQ];have:s[a]?=none:=List.getElem?_eq_none_iff.2 aq;rw [this];simp
 | blank hc nV h ih =>
  intro hb f acc hf
  cases f with
  | zero=>have:=(bh hc).1;omega
  | succ f =>
   rw [nQ,hc];simp only;rw [ae nV];exact ih hb f acc aq
 | tok hc nV hr ht hk hn ha h ih =>
  intro hb f acc hf
  cases f with
  | zero=>have:=(bh hc).1;omega
  | succ f =>
   rw [nQ,hc];simp only;rw [ab (by rw [nV];decide),ab (by rw [hr];decide),UZ hc ht hk hn];simp only [ne_eq,not_true_eq_false,if_false];rw [ih hb f _ aq];simp
abbrev sr (ts:List Tok):Prop:=∀ t∈ts,Cj t
def EF (t:T):Prop:=∃ a:E,a.ok=true/\er t=a.tree
def MC (l:List T):Prop:=∃ es:List E,E.df es=true/\aQ l=E.trees es
def Sf (ts r:List Tok) (n:Nat):Prop:=∃ pre,ts=pre++r/\n<=pre.length
theorem Sf.nil (ts:List Tok):Sf ts ts 0:=⟨[],rfl,aX _⟩
theorem Sf.one (t:Tok) (ts:List Tok):Sf (t::ts) ts 1:=⟨[t],rfl,aH _⟩
theorem Sf.trans {a b c:List Tok} {n m:Nat} (h:Sf a b n) (k:Sf b c m):Sf a c (n+m):=by
 obtain ⟨p,rfl,h⟩:=h;obtain ⟨q,rfl,k⟩:=k;exact ⟨p++q,by simp,by rw [aZ];omega⟩
theorem Sf.le {a b:List Tok} {n m:Nat} (h:Sf a b n) (k:m<=n):Sf a b m:=by
 obtain ⟨p,rfl,h⟩:=h;exact ⟨p,rfl,by omega⟩
theorem Sf.ok {a b:List Tok} {n:Nat} (h:Sf a b n) (k:sr a):sr b:=by
 obtain ⟨p,rfl,h⟩:=h
 exact fun t ht=>k t (List.mem_append_right _ ht)
theorem Sf.aP {e:Int} {s:ah} {ts r:List Tok} (hs:s≠[]) (h:aP e s ts=.ok r):Sf ts r 1:=by
 obtain ⟨u,rfl,_⟩:=xz hs h;exact .one u r
theorem Sf.sign {s:ah} {ts:List Tok} (hs:s≠[]) (h:sign ts 0=s):Sf ts ts.tail 1:=by
 obtain ⟨u,I,_⟩:=uW hs h;rw [I];exact .one u _
theorem Rs {s:ah} (h:kK s=false):words.contains s=false:=by
 unfold kK at h;rw [zg] at h
 cases hc:words.contains s with
 | false=>rfl
 | true =>
  rw [ej] at hc
  have:(words++bQ).contains s=true:=by rw [ej];exact List.mem_append_left _ hc
  rw [h] at this;cases this
theorem Yi {t:Tok} (h:Cj t) (hk:t.kind=2) (hl:t.s.length<=12):bx t.s=true:=by
 obtain ⟨I,F⟩:=h.name hk;unfold bx;rw [I,Rs F];simpa using hl
theorem Sf.name {e:Int} {s:ah} {ts r:List Tok} (h:name e ts=.ok (s,r)) (ho:sr ts):Sf ts r 1/\bx s=true:=by
 obtain ⟨u,rfl,I,rfl,h3⟩:=HJ h;exact ⟨.one u r,Yi (ho u mem_cons_self) I h3⟩
theorem TA {s:ah} {k:Nat} (h:s∈levels.getD k []):fa s=true:=by
 unfold fa;rw [p7];rw [List.getD_eq_getElem?_getD] at h
 cases hk:levels[k]? with
 | none=>rw [hk] at h;simp at h
 | some l =>
  rw [hk] at h;exact ⟨l,bm hk,by rw [ej];exact h⟩
theorem jN (k a:Int) (s:ah) (l:List T):aO (one k a s l)=aC l+1:=by unfold one;rw [aO]
theorem MC.snoc {l:List T} {t:T} (h:MC l) (k:EF t):MC (l++[t]):=by
 obtain ⟨es,I,F⟩:=h;obtain ⟨a,h3,h4⟩:=k
 have key:∀ es:List E,E.df es=true->E.df (es++[a])=true/\E.trees (es++[a])=E.trees es++[a.tree]:=by
  intro es
  induction es with
  | nil=>intro _;simp [E.df,E.trees,h3]
  | cons b es ih =>
   intro h;simp only [E.df,aE] at h;obtain ⟨k1,k2⟩:=ih h.2;simp only [cons_append,E.df,E.trees,k1,k2,h.1];simp
 obtain ⟨k1,k2⟩:=key es I;exact ⟨es++[a],k1,by rw [JK,F,k2,aQ,aQ,h4]⟩
def wx:pA->Nat
 | .loop _ _ out=>aO out
 | _=>0
def jok:pA->Prop
 | .loop _ _ out=>EF out
 | _=>True
theorem UB (e:Int):∀ f,(∀ j ts t r,sr ts->jok j->rd e f j ts=.ok (t,r)->EF t/\∃ n,Sf ts r n/\aO t<=n+wx j) /\
  (∀ d acc ts l r,sr ts->MC acc->rd.args e f d acc ts=.ok (l,r)->MC l/\∃ n,Sf ts r n/\aC l+1<=n+aC acc):=by
 intro f
 induction f with
 | zero=>exact ⟨fun j ts t r _ _ h=>by simp [rd] at h,fun d acc ts l r _ _ h=>by simp [rd.args] at h⟩
 | succ f ih =>
  obtain ⟨ih,yU⟩:=ih;refine ⟨fun j ts t r ho hj h=>?_,fun d acc ts l r ho hj h=>?_⟩
  ·cases j with
   | expr d =>
    rw [rd] at h;split at h
    ·cases h
    ·exact ih (.level 0 (d+1)) ts t r ho trivial h
   | level k d =>
    rw [rd] at h;split at h
    ·exact ih (.operand d) ts t r ho trivial h
    ·split at h
     ·cases h
     ·rename_i out jz hx;obtain ⟨I,n,F,h3⟩:=ih (.level (k+1) d) ts out jz ho trivial hx;obtain ⟨k1,m,k2,k3⟩:=ih (.loop k d out) jz t r (F.ok ho) I h;exact ⟨k1,n+m,F.trans k2,by simp only [wx] at *;omega⟩
   | loop k d out =>
    cases ts with
    | nil=>rw [rd] at h;cases h;exact ⟨hj,0,.nil _,by simp only [wx];omega⟩
    | cons t0 r0 =>
     rw [rd] at h;split at h
     ·rename_i hc;split at h
      ·cases h
      ·rename_i b r1 hx;obtain ⟨⟨b',h0,I⟩,n,F,h3⟩:=ih (.level (k+1) d) r0 b r1 (fun t ht=>ho t (cV _ ht)) trivial hx;obtain ⟨o',h4,h5⟩:=hj;have h6:=(Sf.one t0 r0).trans F;obtain ⟨k1,m,k2,k3⟩:=ih (.loop k d (one 6 t0.at_ t0.s [out,b])) r1 t r (h6.ok ho) ⟨.bin t0.s o' b',by simp only [E.ok,TA hc.2,h4,h0];rfl,by rw [dZ,aQ,aQ,aQ,h5,I,E.tree]⟩ h;refine ⟨k1,_,h6.trans k2,?_⟩;simp only [wx,jN,aC] at *;omega
     ·cases h;exact ⟨hj,0,.nil _,by simp only [wx];omega⟩
   | operand d =>
    cases ts with
    | nil =>
     rw [rd] at h;split at h <;> cases h
    | cons t0 r0 =>
     rw [rd] at h;split at h
     ·cases h
     ·have Y5:sr r0:=fun t ht=>ho t (cV _ ht)
      have wu:=Sf.one t0 r0;split at h
      ·split at h
       ·rename_i hu;split at h
        ·cases h
        ·rename_i a r1 hx;cases h;obtain ⟨⟨a',h0,I⟩,n,F,h3⟩:=ih (.operand (d+1)) r0 a r Y5 trivial hx;refine ⟨⟨.un t0.s a',?_,by rw [dZ,aQ,aQ,I,E.tree]⟩,_,wu.trans F,?_⟩
         ·simp only [E.ok,h0]
          rcases hu with hu | hu | hu <;> simp [hu]
         ·simp only [wx,jN,aC] at *;omega
       ·split at h
        ·split at h
         ·cases h
         ·rename_i a r1 hx;split at h
          ·cases h
          ·rename_i r2 hm;cases h;obtain ⟨I,n,F,h3⟩:=ih (.expr (d+1)) r0 t r1 Y5 trivial hx;exact ⟨I,_,(wu.trans F).trans (Sf.aP aw hm),by simp only [wx] at *;omega⟩
        ·cases h
      ·split at h
       ·rename_i hk;cases h;obtain ⟨k1,k2,k3⟩:=(ho t0 mem_cons_self).num hk;exact ⟨⟨.num t0.n,by simp only [E.ok];simp [k1,k2],by rw [er,aQ,E.tree]⟩,1,wu,by simp only [wx,aO,aC];omega⟩
       ·split at h
        ·cases h
        ·rename_i s r1 fy;obtain ⟨k1,k2⟩:=Sf.name fy ho;split at h
         ·rename_i hb;have k3:=k1.trans (Sf.sign aw hb);split at h
          ·cases h
          ·rename_i a r2 hx;split at h
           ·cases h
           ·rename_i r3 hm;cases h;obtain ⟨⟨a',h0,I⟩,n,F,h3⟩:=ih (.expr (d+1)) _ a r2 (k3.ok ho) trivial hx;refine ⟨⟨.at_ s a',by simp only [E.ok,k2,h0];rfl,by rw [dZ,aQ,aQ,I,E.tree]⟩,_,(k3.trans F).trans (Sf.aP aw hm),?_⟩;simp only [wx,jN,aC] at *;omega
         ·split at h
          ·rename_i hb;have k3:=k1.trans (Sf.sign aw hb);split at h
           ·cases h
           ·rename_i l r2 hx;cases h;obtain ⟨⟨es,h0,I⟩,n,F,h3⟩:=yU _ _ _ l r (k3.ok ho) ⟨[],rfl,rfl⟩ hx;refine ⟨⟨.call s es,by simp only [E.ok,k2,h0];rfl,by rw [dZ,I,E.tree]⟩,_,k3.trans F,?_⟩;simp only [wx,jN,aC] at *;omega
          ·cases h;exact ⟨⟨.name s,by simp only [E.ok,k2],by rw [dZ,aQ,E.tree]⟩,1,k1,by simp only [wx,jN,aC];omega⟩
  ·rw [rd.args] at h;split at h
   ·rename_i hc;cases h;exact ⟨hj,1,Sf.sign aw hc,by omega⟩
   ·split at h
    ·cases h
    ·rename_i zk hx
     have h0:Sf ts zk 0:=by
      split at hx
      ·cases hx;exact .nil _
      ·exact (Sf.aP aw hx).le (aX _)
     split at h
     ·cases h
     ·rename_i a wT hy;obtain ⟨I,n,F,h3⟩:=ih (.expr d) zk a wT (h0.ok ho) trivial hy;have h4:=h0.trans F;obtain ⟨k1,m,k2,k3⟩:=yU _ (acc++[a]) wT l r (h4.ok ho) (hj.snoc I) h;refine ⟨k1,_,h4.trans k2,?_⟩;simp only [wx,nJ,aC] at *;omega
theorem yu {e:Int} {d:Nat} {ts r:List Tok} {t:T} (ho:sr ts) (h:expr e d ts=.ok (t,r)):EF t/\Sf ts r (aO t):=by
 obtain ⟨I,n,F,h3⟩:=(UB e _).1 (.expr d) ts t r ho trivial h;exact ⟨I,F.le (by simpa [wx] using h3)⟩
theorem xm {e:Int} {d:Nat} {a b:ah} {ts r:List Tok} {t:T} (ha:a≠[]) (hb:b≠[]) (ho:sr ts) (h:inner e d a b ts=.ok (t,r)):EF t/\Sf ts r (aO t+2):=by
 unfold inner at h;split at h
 ·cases h
 ·rename_i zk I;have k1:=Sf.aP ha I;split at h
  ·cases h
  ·rename_i t' wT F;obtain ⟨k2,k3⟩:=yu (k1.ok ho) F;split at h
   ·cases h
   ·rename_i ts3 h3;cases h;exact ⟨k2,((k1.trans k3).trans (Sf.aP hb h3)).le aq⟩
theorem Dc {e:Int} {d:Nat} {ts r:List Tok} {s:ah} {t:T} (ho:sr ts) (h:lR e d ts=.ok ((s,t),r)):bx s=true/\EF t/\Sf ts r (aO t+3):=by
 unfold lR at h;split at h
 ·cases h
 ·rename_i s' zk I;obtain ⟨k1,k2⟩:=Sf.name I ho;split at h
  ·cases h
  ·rename_i t' wT F;cases h;obtain ⟨k3,k4⟩:=xm aw aw (k1.ok ho) F;exact ⟨k2,k3,(k1.trans k4).le aq⟩
def SF (t:T):Prop:=∃ a:S,a.ok=true/\er t=a.tree
def MK (l:List T):Prop:=∃ es:List S,S.df es=true/\aQ l=S.trees es
def BF (t:T):Prop:=∃ l:List S,S.df l=true/\er t=bO l
theorem MK.snoc {l:List T} {t:T} (h:MK l) (k:SF t):MK (l++[t]):=by
 obtain ⟨es,I,F⟩:=h;obtain ⟨a,h3,h4⟩:=k
 have key:∀ es:List S,S.df es=true->S.df (es++[a])=true/\S.trees (es++[a])=S.trees es++[a.tree]:=by
  intro es
  induction es with
  | nil=>intro _;simp [S.df,S.trees,h3]
  | cons b es ih =>
   intro h;simp only [S.df,aE] at h;obtain ⟨k1,k2⟩:=ih h.2;simp only [cons_append,S.df,S.trees,k1,k2,h.1];simp
 obtain ⟨k1,k2⟩:=key es I;exact ⟨es++[a],k1,by rw [JK,F,k2,aQ,aQ,h4]⟩
theorem Rj {t:T} (h:EF t) (hk:t.n.kind=3):∃ (s:ah) (a:T),t.kids=[a]/\t.n.s=s/\bx s=true/\EF a:=by
 obtain ⟨a,I,F⟩:=h;have h3:=congrArg (fun x=>x.n.kind) F;simp only [yr,hk] at h3
 cases a with
 | at_ s b =>
  simp only [E.ok,aE] at I
  have h4:t.n.s=s:=by have:=congrArg (fun x=>x.n.s) F;simp only [yr] at this;exact this
  have h5:aQ t.kids=[b.tree]:=by rw [<-TQ,F];rfl
  match hl:t.kids,h5 with
  | [x],h5 =>
   rw [aQ,aQ] at h5
   injection h5 with h6
   exact ⟨s,x,rfl,h4,I.1,b,I.2,h6⟩
  | [],h5=>rw [aQ] at h5;cases h5
  | x::y::r,h5=>rw [aQ,aQ] at h5;injection h5 with h6 h7;cases h7
 | num n=>simp [E.tree,T.n] at h3
 | name n=>simp [E.tree,T.n] at h3
 | call s l=>simp [E.tree,T.n] at h3
 | un s a=>simp [E.tree,T.n] at h3
 | bin s a b=>simp [E.tree,T.n] at h3
theorem Je {e:Int} {d:Nat} {ts r:List Tok} {t:T} (ho:sr ts) (h:simple e d ts=.ok (t,r)):SF t/\Sf ts r (aO t):=by
 unfold simple at h;split at h
 ·split at h <;> cases h
 ·rename_i t0 r0;split at h
  ·split at h
   ·cases h
   ·rename_i s a zk I;cases h;obtain ⟨k1,⟨a',k2,k3⟩,k4⟩:=Dc ho I;exact ⟨⟨.set s a',by simp only [S.ok,k1,k2];rfl,by rw [dZ,aQ,aQ,k3,S.tree]⟩,k4.le (by simp only [jN,aC];omega)⟩
  ·split at h
   ·cases h
   ·rename_i a zk I;obtain ⟨k1,k2⟩:=yu ho I;split at h
    ·rename_i hc;split at h
     ·cases h
     ·rename_i v wT F;cases h;obtain ⟨⟨v',k3,k4⟩,k5⟩:=xm aw aw (k2.ok ho) F;obtain ⟨s,x,k6,k7,k8,x',k9,k10⟩:=Rj k1 hc.1;have hz:=eO a;rw [k6] at hz;simp only [aC] at hz;rw [k6];refine ⟨⟨.put s x' v',by simp only [S.ok,k8,k9,k3];rfl,?_⟩,(k2.trans k5).le ?_⟩
      ·rw [dZ,k7];simp only [take_succ_cons,take_zero,cons_append,nil_append,aQ,k10,k4,S.tree]
      ·simp only [take_succ_cons,take_zero,cons_append,nil_append,jN,aC];omega
    ·split at h
     ·cases h
     ·rename_i wT F;cases h;obtain ⟨a',k3,k4⟩:=k1;exact ⟨⟨.do_ a',by simp only [S.ok,k3],by rw [dZ,aQ,aQ,k4,S.tree]⟩,(k2.trans (Sf.aP aw F)).le (by simp only [jN,aC];omega)⟩
theorem UE (e:Int):∀ f,(∀ d ts t r,sr ts->rs e f (.block d) ts=.ok (t,r)->BF t/\Sf ts r (aO t))/\(∀ d ts t r,sr ts->rs e f (.stmt d) ts=.ok (t,r)->SF t/\Sf ts r (aO t)) /\
  (∀ d acc ts l r,sr ts->MK acc->rs.body e f d acc ts=.ok (l,r)->MK l/\∃ n,Sf ts r n/\aC l+1<=n+aC acc):=by
 intro f
 induction f with
 | zero=>exact ⟨fun d ts t r _ h=>by simp [rs] at h,fun d ts t r _ h=>by simp [rs] at h,fun d acc ts l r _ _ h=>by simp [rs.body] at h⟩
 | succ f ih =>
  obtain ⟨Zl,ihs,Zm⟩:=ih;refine ⟨fun d ts t r ho h=>?_,fun d ts t r ho h=>?_,fun d acc ts l r ho hj h=>?_⟩
  ·rw [rs] at h;split at h
   ·cases h
   ·split at h
    ·cases h
    ·rename_i r1 I;have k1:=Sf.aP aw I;split at h
     ·cases h
     ·rename_i l r2 F;cases h;obtain ⟨⟨es,k2,k3⟩,n,k4,k5⟩:=Zm _ [] r1 l r (k1.ok ho) ⟨[],rfl,rfl⟩ F;exact ⟨⟨es,k2,by rw [dZ,k3,bO]⟩,(k1.trans k4).le (by simp only [jN,aC] at *;omega)⟩
  ·rw [rs] at h;split at h
   ·cases h
   ·simp only at h;split at h
    ·rename_i hs;have k0:=Sf.sign aw hs;split at h
     ·cases h
     ·rename_i s a zk I;cases h;obtain ⟨k1,⟨a',k2,k3⟩,k4⟩:=Dc (k0.ok ho) I;exact ⟨⟨.var s a',by simp only [S.ok,k1,k2];rfl,by rw [dZ,aQ,aQ,k3,S.tree]⟩,(k0.trans k4).le (by simp only [jN,aC];omega)⟩
    ·split at h
     ·rename_i hs
      have k0:Sf ts ts.tail 1:=by
       rcases hs with hs | hs
       ·exact Sf.sign aw hs
       ·exact Sf.sign aw hs
      split at h
      ·cases h
      ·rename_i c r1 I;obtain ⟨⟨c',k1,k2⟩,k3⟩:=xm aw aw (k0.ok ho) I;have k4:=k0.trans k3;split at h
       ·cases h
       ·rename_i b r2 F;obtain ⟨⟨lb,k5,k6⟩,k7⟩:=Zl _ _ b r2 (k4.ok ho) F;have k8:=k4.trans k7;split at h
        ·split at h
         ·rename_i eR;have k9:=k8.trans (Sf.sign aw eR);split at h
          ·cases h
          ·rename_i b2 r3 h3;cases h;obtain ⟨⟨lb2,j5,j6⟩,j7⟩:=Zl _ _ b2 r (k9.ok ho) h3;refine ⟨⟨.if2 c' lb lb2,by simp only [S.ok,k1,k5,j5];rfl,?_⟩,(k9.trans j7).le (by simp only [jN,aC];omega)⟩;rw [dZ,aQ,aQ,aQ,aQ,k2,k6,j6,S.tree,bO,bO]
         ·cases h;refine ⟨⟨.if1 c' lb,by simp only [S.ok,k1,k5];rfl,?_⟩,k8.le (by simp only [jN,aC];omega)⟩;rw [dZ,aQ,aQ,aQ,k2,k6,S.tree,bO]
        ·cases h;refine ⟨⟨.while_ c' lb,by simp only [S.ok,k1,k5];rfl,?_⟩,k8.le (by simp only [jN,aC];omega)⟩;rw [dZ,aQ,aQ,aQ,k2,k6,S.tree,bO]
     ·split at h
      ·rename_i hs;have k0:=Sf.sign aw hs;split at h
       ·cases h
       ·rename_i a zk I;obtain ⟨⟨a',k1,k2⟩,k3⟩:=yu (k0.ok ho) I;split at h
        ·cases h
        ·rename_i wT F;cases h;exact ⟨⟨.ret a',by simp only [S.ok,k1],by rw [dZ,aQ,aQ,k2,S.tree]⟩,((k0.trans k3).trans (Sf.aP aw F)).le (by simp only [jN,aC];omega)⟩
      ·exact Je ho h
  ·rw [rs.body] at h;split at h
   ·rename_i hc;cases h;exact ⟨hj,1,Sf.sign aw hc,by omega⟩
   ·split at h
    ·cases h
    ·rename_i a zk I;obtain ⟨k1,k2⟩:=ihs _ ts a zk ho I;obtain ⟨k3,m,k4,k5⟩:=Zm _ (acc++[a]) zk l r (k2.ok ho) (hj.snoc k1) h;refine ⟨k3,_,k2.trans k4,?_⟩;simp only [nJ,aC] at *;omega
theorem Ll {e:Int} {d:Nat} {ts r:List Tok} {t:T} (ho:sr ts) (h:block e d ts=.ok (t,r)):BF t/\Sf ts r (aO t):=(UE e _).1 _ ts t r ho h
end Go.Im
namespace Go.Sp
open Go.Xp
def eG (x:ah) (l:List K):Prop:=∀ pre post:ah,∃ ts,ts.map kf=l/\Tz (pre++(x++post)) pre.length ts (pre.length+x.length)
def iC (x:ah) (l:List K):Prop:=∀ pre post:ah,Sep post->∃ ts,ts.map kf=l/\Tz (pre++(x++post)) pre.length ts (pre.length+x.length)
theorem eG.s {x:ah} {l:List K} (h:eG x l):iC x l:=fun pre post _=>h pre post
theorem eG.app {x y:ah} {l m:List K} (h:eG x l) (k:eG y m):eG (x++y) (l++m):=by
 intro pre post;obtain ⟨ts,I,F⟩:=h pre (y++post);obtain ⟨us,h3,h4⟩:=k (pre++x) post;refine ⟨ts++us,by simp [I,h3],?_⟩;rw [iw] at h4 |-;rw [aZ] at h4 |-;rw [<-gW];exact F.app h4
theorem eG.apps {x y:ah} {l m:List K} (h:eG x l) (k:iC y m):iC (x++y) (l++m):=by
 intro pre post hp;obtain ⟨ts,I,F⟩:=h pre (y++post);obtain ⟨us,h3,h4⟩:=k (pre++x) post hp;refine ⟨ts++us,by simp [I,h3],?_⟩;rw [iw] at h4 |-;rw [aZ] at h4 |-;rw [<-gW];exact F.app h4
theorem iC.Gc {x y:ah} {l m:List K} (h:iC x l) (k:eG y m) (hs:∀ post,Sep (y++post)):eG (x++y) (l++m):=by
 intro pre post;obtain ⟨ts,I,F⟩:=h pre (y++post) (hs post);obtain ⟨us,h3,h4⟩:=k (pre++x) post;refine ⟨ts++us,by simp [I,h3],?_⟩;rw [iw] at h4 |-;rw [aZ] at h4 |-;rw [<-gW];exact F.app h4
theorem eG.nil:eG [] []:=fun pre post=>⟨[],rfl,.nil _⟩
theorem ze {c:UInt8} {x:ah} (h:c∈D7):∀ post,Sep (c::x++post):=fun post d hd=>by cases hd;exact h
theorem uh {pre x:ah}:(pre++x).drop pre.length=x:=drop_left
theorem Tz.one {s:ah} {a a':Nat} {c:UInt8} {t:Tok} (hc:s[a]?=some c) (hb:dU c=false) (hr:bF s a [47,42]=false) (ht:jC s a c=(t,a')) (hk:t.kind=1\/t.kind=2\/t.kind=3) (hn:t.n<=2147483647) (ha:a < a'):Tz s a [t] a' :=
 .tok hc hb hr ht hk hn ha (.nil _)
theorem yZ {c:UInt8} (h:dU c=true):eG [c] []:=by
 intro pre post;have hd:(pre++([c]++post)).drop pre.length=c::post:=uh;obtain ⟨I,_,_⟩:=nF hd;exact ⟨[],rfl,.blank I h (.nil _)⟩
theorem na {c:UInt8} (hm:c∈[40,41,91,93,44,59,123,125]):eG [c] [kS [c]]:=by
 intro pre post;have hd:(pre++([c]++post)).drop pre.length=c::post:=uh;obtain ⟨I,_,h4⟩:=nF hd;obtain ⟨F,h3,h5⟩:=Qr (Nat.le_of_lt h4) hd hm;exact ⟨[_],rfl,Tz.one I h3 h5 F (by simp) (by simp) (by simp)⟩
theorem BU {w:ah} (hm:w∈bQ):iC w [kS w]:=by
 intro pre post hp;have hd:(pre++(w++post)).drop pre.length=w++post:=uh
 have cj:w≠[]:=by rintro rfl;revert hm;decide
 obtain ⟨c,r,hw⟩:=List.exists_cons_of_ne_nil cj;have fw:=hd;rw [hw,cons_append] at fw;obtain ⟨I,_,h4⟩:=nF fw;rw [<-cons_append,<-hw] at I h4;obtain ⟨F,h3,h5⟩:=Rv (Nat.le_of_lt h4) hd hw hm hp
 have:0 < w.length:=by rw [hw];simp
 exact ⟨[_],rfl,Tz.one I h3 h5 F (by simp) (by simp) aq⟩
theorem Jf {c:UInt8} (h:small c=true):dU c=false/\c≠47:=by
 simp only [small,aE] at h;have I:=lS h.1;refine ⟨?_,fun h0=>?_⟩
 ·simp only [dU,Bool.or_eq_false_iff,beq_eq_false_iff_ne];omega
 ·subst h0;revert I;decide
theorem Fo {s r:ah} {a:Nat} {c:UInt8} (h:s.drop a=c::r) (hc:c≠47):bF s a [47,42]=false:=by
 obtain ⟨_,_,h4⟩:=nF h;rw [vC h (Nat.le_of_lt h4)];simp only [List.isPrefixOf]
 have:((47:UInt8)==c)=false:=by rw [beq_eq_false_iff_ne];exact fun h=>hc h.symm
 rw [this,Bool.false_and]
theorem HF {w:ah} (hw:word w=true):iC w [if words.contains w then kS w else kN w]:=by
 intro pre post hp;have hd:(pre++(w++post)).drop pre.length=w++post:=uh;simp only [word,aE,fE] at hw
 match w,hw,hd with
 | [],hw,_=>simp at hw
 | c::r,hw,hd =>
  obtain ⟨aY,hs⟩:=hw;have fw:=hd;rw [cons_append] at fw;obtain ⟨I,_,h4⟩:=nF fw;obtain ⟨h3,h5⟩:=Jf hs;have ht:=RW (Nat.le_of_lt h4) hd rfl hs aY hp.et;refine ⟨[_],?_,Tz.one I h3 (Fo fw h5) ht ?_ (by simp) (by simp)⟩
  ·simp only [List.map_cons,List.map_nil,kf,kS,kN];split <;> rfl
  ·simp only;split <;> simp
theorem kM {w:ah} (hw:bx w=true):iC w [kN w]:=by
 simp only [bx,aE,Bool.not_eq_true'] at hw;have:=HF hw.1.1;rw [ab (by rw [hw.2];decide)] at this;exact this
theorem OT {w:ah} (hw:w∈words):iC w [kS w]:=by
 have I:∀ w∈words,word w=true:=by decide
 have:=HF (I w hw);rw [ae (by simpa using hw)] at this;exact this
theorem Kl {n:Nat} (hn:n<=2147483647):iC (eI n) [kI n]:=by
 intro pre post hp;have hd:(pre++(eI n++post)).drop pre.length=eI n++post:=uh;obtain ⟨I,F,h3⟩:=JC n;obtain ⟨c,r,hw⟩:=List.exists_cons_of_ne_nil h3;have fw:=hd;rw [hw,cons_append] at fw;obtain ⟨h4,_,h5⟩:=nF fw;rw [<-cons_append,<-hw] at h4 h5;have hc:eD c=true:=I c (by rw [hw];exact mem_cons_self)
 have yI:dU c=false/\c≠47:=by
  simp only [eD,aE] at hc;have I:=lS hc.1;refine ⟨?_,fun h0=>?_⟩
  ·simp only [dU,Bool.or_eq_false_iff,beq_eq_false_iff_ne];omega
  ·subst h0;revert I;decide
 have ht:=Uv (Nat.le_of_lt h5) hd hw hn hp.eD
 have:0 < (eI n).length:=by rw [hw];simp
 refine ⟨[_],rfl,Tz.one h4 yI.1 ?_ ht (by simp) (by simpa using by omega) aq⟩;have EX:=fw;rw [<-cons_append,<-hw] at EX;rw [hw] at EX |-;exact Fo EX yI.2
theorem WA {s:ah} (h:fa s=true):s∈bQ:=by
 have hm:s∈levels.flatten:=by
  unfold fa at h;rw [p7] at h;obtain ⟨l,hl,hc⟩:=h;exact List.mem_flatten.2 ⟨l,hl,by simpa using hc⟩
 have key:∀ s∈levels.flatten,s∈bQ:=by decide
 exact key s hm
theorem Mn:eG [32] []:=yZ aw
theorem iC.then {x:ah} {l:List K} (h:iC x l) {c:UInt8} (hm:c∈[40,41,91,93,44,59,123,125]):eG (x++[c]) (l++[kS [c]]) :=
 h.Gc (na hm) (ze (by revert hm;unfold D7;simp only [List.mem_cons,List.not_mem_nil,or_false];rintro (h | h | h | h | h | h | h | h) <;> simp [h]))
theorem iC.sp {x:ah} {l:List K} (h:iC x l):eG (x++[32]) l:=by
 have:=h.Gc Mn (ze aw);rw [iy] at this;exact this
theorem iC.eq {x:ah} {l l':List K} (h:iC x l) (e:l=l'):iC x l':=e ▸ h
theorem eG.eq {x:ah} {l l':List K} (h:eG x l) (e:l=l'):eG x l':=e ▸ h
theorem DT {lv k:Nat} {x:ah} {l:List K} (h:iC x l):iC (ry lv k x) (brk lv k l):=by
 unfold ry brk;split
 ·have:=((na (c:=40) aw).apps h).then (c:=41) aw;exact this.s.eq (by simp)
 ·exact h
mutual
theorem qh:∀ a:E,a.ok=true->iC a.bp a.tk
 | .num n,h=>by
  simp only [E.ok,aE] at h;have I:=lS h.1;have F:=lS h.2;have:=Kl (n:=n.toNat) aq;rw [E.bp,E.tk];rw [Int.toNat_of_nonneg I] at this;exact this
 | .name s,h=>by rw [E.bp,E.tk];exact kM h
 | .at_ s a,h=>by
  simp only [E.ok,aE] at h;rw [E.bp,E.tk];exact ((((kM h.1).then (c:=91) aw).apps (qh a h.2)).then (c:=93) aw).s.eq (by simp)
 | .call s l,h=>by
  simp only [E.ok,aE] at h;rw [E.bp,E.tk];exact ((((kM h.1).then (c:=40) aw).apps (X9 l h.2)).then (c:=41) aw).s.eq (by simp)
 | .un s a,h=>by
  simp only [E.ok,aE,Bool.or_eq_true,beq_iff_eq] at h;rw [E.bp,E.tk]
  have hs:s∈bQ:=by rcases h.1 with (h | h) | h <;> (rw [h];decide)
  exact ((BU hs).sp.apps (DT (qh a h.2))).eq (by simp)
 | .bin s a b,h=>by
  simp only [E.ok,aE] at h;rw [E.bp,E.tk];exact ((((DT (qh a h.1.2)).sp.apps (BU (WA h.1.1))).sp).apps (DT (qh b h.2))).eq (by simp)
theorem X9:∀ l:List E,E.df l=true->iC (bK (E.dc l)) (E.nC l)
 | [],_=>eG.nil.s
 | a::l,h=>by
  simp only [E.df,aE] at h;rw [E.dc,E.nC,bK];exact S3 l h.2 _ _ (qh a h.1)
theorem S3:∀ l:List E,E.df l=true->∀ x m,iC x m->iC (x++(E.dc l).flatMap fun y=>44::32::y) (m++E.rj l)
 | [],_,x,m,hx=>by rw [E.dc,E.rj];simpa using hx
 | a::l,h,x,m,hx=>by
  simp only [E.df,aE] at h;have I:=((hx.then (c:=44) aw).app Mn).apps (qh a h.1);have F:=S3 l h.2 _ _ I;rw [E.dc,E.rj,flatMap_cons]
  have e1:x++((44::32::a.bp)++(E.dc l).flatMap fun y=>44::32::y)=(x++[44]++[32]++a.bp)++(E.dc l).flatMap fun y=>44::32::y:=by simp
  rw [e1];exact F.eq (by simp)
end
theorem iC.set {x:ah} {l:List K} (h:iC x l):eG (x++[32,61,32]) (l++[kS [61]]):=by
 have:=(h.sp.apps (BU (w:=[61]) aw)).sp;simpa using this
theorem vo {w:ah} (hw:w∈words):eG (w++[32]) [kS w]:=(OT hw).sp
mutual
theorem Ya:∀ s:S,s.ok=true->eG (s.bp E.bp) s.tk
 | .set s a,h=>by
  simp only [S.ok,aE] at h;rw [S.bp,S.tk];exact (((kM h.1).set.apps (qh a h.2)).then (c:=59) aw).eq (by simp)
 | .put s a b,h=>by
  simp only [S.ok,aE] at h;rw [S.bp,S.tk];have I:=((((kM h.1).then (c:=91) aw).apps (qh a h.2.1)).then (c:=93) aw).s.set;have F:=(I.apps (qh b h.2.2)).then (c:=59) aw
  have e:s++[91]++a.bp++[93,32,61,32]++b.bp++[59]=s++[91]++a.bp++[93]++[32,61,32]++b.bp++[59]:=by simp
  rw [e];exact F.eq (by simp)
 | .if1 c b,h=>by
  simp only [S.ok,aE] at h;rw [S.bp,S.tk];have I:=((((vo (w:=[105,102]) aw).app (na (c:=40) aw)).apps (qh c h.1)).then (c:=41) aw).s.sp;have F:=I.app (lexB b h.2)
  have e:[105,102,32,40]++c.bp++[41,32]++(S.dc E.bp [123,32] b++[125])=[105,102]++[32]++[40]++c.bp++[41]++[32]++(S.dc E.bp [123,32] b++[125]):=by simp
  rw [e];exact F.eq (by simp [eo])
 | .if2 c b b2,h=>by
  simp only [S.ok,aE] at h;rw [S.bp,S.tk];have I:=((((vo (w:=[105,102]) aw).app (na (c:=40) aw)).apps (qh c h.1)).then (c:=41) aw).s.sp;have F:=I.app (lexB b h.2.1);have h3:=((F.s.sp.apps (OT (w:=[101,108,115,101]) aw)).sp).app (lexB b2 h.2.2)
  have e:[105,102,32,40]++c.bp++[41,32]++(S.dc E.bp [123,32] b++[125])++[32,101,108,115,101,32]++(S.dc E.bp [123,32] b2++[125])=[105,102]++[32]++[40]++c.bp++[41]++[32]++(S.dc E.bp [123,32] b++[125])++[32]++[101,108,115,101]++[32]++(S.dc E.bp [123,32] b2++[125]):=by simp
  rw [e];exact h3.eq (by simp [eo,eM])
 | .while_ c b,h=>by
  simp only [S.ok,aE] at h;rw [S.bp,S.tk];have I:=((((vo (w:=[119,104,105,108,101]) aw).app (na (c:=40) aw)).apps (qh c h.1)).then (c:=41) aw).s.sp;have F:=I.app (lexB b h.2)
  have e:[119,104,105,108,101,32,40]++c.bp++[41,32]++(S.dc E.bp [123,32] b++[125])=[119,104,105,108,101]++[32]++[40]++c.bp++[41]++[32]++(S.dc E.bp [123,32] b++[125]):=by simp
  rw [e];exact F.eq (by simp [dL])
 | .ret a,h=>by
  simp only [S.ok] at h;rw [S.bp,S.tk];have I:=((vo (w:=[114,101,116,117,114,110]) aw).apps (qh a h)).then (c:=59) aw;exact I.eq (by simp [dy])
 | .do_ a,h=>by
  simp only [S.ok] at h;rw [S.bp,S.tk];exact (qh a h).then (c:=59) aw
 | .var s a,h=>by
  simp only [S.ok,aE] at h;rw [S.bp,S.tk];have I:=((((vo (w:=[118,97,114]) aw).apps (kM h.1)).set).apps (qh a h.2)).then (c:=59) aw;exact I.eq (by simp [iv])
theorem lexB:∀ l:List S,S.df l=true->eG (S.dc E.bp [123,32] l++[125]) (kS [123]::(S.nC l++[kS [125]]))
 | l,h=>by
  have h0:eG [123,32] [kS [123]]:=by
   have:=(na (c:=123) aw).s.sp;simpa using this
  exact ((S4 l h _ _ h0).s.then (c:=125) aw).eq (by simp)
theorem S4:∀ l:List S,S.df l=true->∀ acc m,eG acc m->eG (S.dc E.bp acc l) (m++S.nC l)
 | [],_,acc,m,h=>by rw [S.dc,S.nC,iy];exact h
 | a::l,ho,acc,m,h=>by
  simp only [S.df,aE] at ho;rw [S.dc,S.nC];have I:=(h.app (Ya a ho.1)).s.sp;exact (S4 l ho.2 _ _ I).eq (by simp)
end
theorem eG.all {x:ah} {l:List K} (h:eG x l):∃ ts,ts.map kf=l/\Tz x 0 ts x.length:=by
 obtain ⟨ts,I,F⟩:=h [] [];exact ⟨ts,I,by simpa using F⟩
theorem Kj {l:List S} (h:S.df l=true):eG (fK E.bp l) (Lk l):=lexB l h
end Go.Sp
namespace Go.Im
open Go.Xp Go.Sp
def NN (s:ah):List K:=[kS mg,kN s,kS [59]]
def Jn (a:Ar):List K:=[kS mg,kN a.name,kS [91],kI a.size,kS [93],kS [59]]
def vL:List ah->List K
 | []=>[]
 | s::r=>kS [44]::kN s::vL r
def HP:List ah->List K
 | []=>[]
 | s::r=>kN s::vL r
def JP (x:Fn × List S):List K:=kS nB::kN x.1.name::kS [40]::(HP x.1.params++kS [41]::Lk x.2)
def lk (x:Fn × List S):ah:=((((([102,117,110,99,32]++x.1.name)++[40])++bK x.1.params)++[41,32])++fK E.bp x.2)++[10]
theorem Kk:eG [59,10] [kS [59]]:=(na (c:=59) aw).app (yZ (c:=10) aw)
theorem Yd {s:ah} (h:bx s=true):eG (g1 s) (NN s) :=
 ((vo (w:=mg) aw).apps (kM h)).Gc Kk (ze (c:=59) (x:=[10]) aw)
theorem Yb {a:Ar} (h:ph a=true):eG (a1 a) (Jn a):=by
 unfold ph at h;simp only [aE,Bool.not_eq_true',decide_eq_false_iff_not] at h;obtain ⟨⟨I,F⟩,h3⟩:=h
 have hz:oU a.size=eI a.size.toNat:=by unfold oU;rw [ab F]
 have hk:kI a.size=kI ((a.size.toNat:Nat):Int):=by rw [Int.toNat_of_nonneg aq]
 have x1:=((vo (w:=mg) aw).apps (kM I)).then (c:=91) aw;have x2:=x1.apps (Kl (n:=a.size.toNat) aq);have x3:=x2.Gc ((na (c:=93) aw).app Kk) (ze (c:=93) (x:=[59,10]) aw);unfold a1 Jn;rw [hz,hk];exact x3
theorem OU:∀ (ps:List ah),cH ps=true->∀ x m,iC x m->iC (x++ps.flatMap fun y=>44::32::y) (m++vL ps)
 | [],_,x,m,h=>by rw [List.flatMap_nil,iy,vL,iy];exact h
 | s::r,hp,x,m,h=>by
  unfold cH at hp;rw [all_cons,aE] at hp;have I:=(h.then (c:=44) aw).app Mn;have F:=I.apps (kM hp.1);have h3:=OU r hp.2 _ _ F;rw [flatMap_cons,vL];refine iC.eq (cast (congrArg (fun z=>iC z _) ?_) h3) ?_
  ·simp
  ·simp
theorem Ye {ps:List ah} (h:cH ps=true):iC (bK ps) (HP ps):=by
 match ps,h with
 | [],_=>exact eG.nil.s
 | s::r,h =>
  unfold cH at h;rw [all_cons,aE] at h;exact OU r h.2 s [kN s] (kM h.1)
theorem Yc {x:Fn × List S} (I:bx x.1.name=true) (F:cH x.1.params=true) (h3:S.df x.2=true):eG (lk x) (JP x):=by
 have x1:=((vo (w:=nB) aw).apps (kM I)).then (c:=40) aw;have x2:=(x1.apps (Ye F)).Gc ((na (c:=41) aw).app Mn) (ze (c:=41) (x:=[32]) aw);have x3:=(x2.app (Kj h3)).app (yZ (c:=10) aw);refine eG.eq x3 ?_;simp [JP]
theorem zQ {α:Type} {f:α->ah} {k:α->List K}:∀ (l:List α),(∀ x∈l,eG (f x) (k x))->∀ acc m,eG acc m->eG (dC f acc l) (m++l.flatMap k)
 | [],_,acc,m,h=>by rw [dC,List.flatMap_nil,iy];exact h
 | x::l,hl,acc,m,h=>by
  rw [dC,flatMap_cons,<-iw];exact zQ l (fun y hy=>hl y (cV _ hy)) _ _ (h.app (hl x mem_cons_self))
theorem M7 {inl:List ah->Nat->ah}:∀ (fns:List Fn) (l:List T) (ls:List (List S)) (acc:ah),ls.length=l.length->(∀ (i:Nat) t b,l[i]?=some t->ls[i]?=some b->nU dh inl 0 t=fK E.bp b) ->
  dC (c8 dh inl) acc (fns.zip l)=dC lk acc (fns.zip ls)
 | [],l,ls,acc,_,_=>by simp [dC]
 | f::r,[],[],acc,_,_=>by simp [dC]
 | f::r,t::l,b::ls,acc,hl,h=>by
  have h0:=h 0 t b rfl rfl;rw [zip_cons_cons,zip_cons_cons,dC,dC,M7 r l ls _ (by simpa using hl) fun i t' b' I F=>h (i+1) t' b' (by simpa using I) (by simpa using F)];simp only [c8,lk,h0]
 | f::r,[],b::ls,acc,hl,_=>by simp at hl
 | f::r,t::l,[],acc,hl,_=>by simp at hl
section
variable {p q:RS} {ts r rest:List Tok} {u:Tok} {s:ah}
theorem rm (h:On p (u::r)):tok p 0=u:=by rw [On.tok h];rfl
theorem BO (h:On p (u::r)) (hk:kf u=kS s):is p 0 s=true:=by
 obtain ⟨I,F⟩:=eC hk;unfold is;rw [rm h,I,F];simp
theorem LM (h:On p (u::r)) {k:K} (hk:kf u=k) (hn:k.1=3->k.2.2≠s):is p 0 s=false:=by
 unfold is;rw [rm h];subst hk
 by_cases h3:u.kind=3
 ·have:=hn h3;simp only [kf] at this;simp [h3,this]
 ·simp [h3]
theorem u7 (h:On p (u::r)) (hk:kf u=kS s):want p s=p.next:=by unfold want;rw [ae h.code,ae (BO h hk)]
theorem y7 (h:On p (u::r)) (hk:kf u=kN s) (hl:bx s=true):bu p=p.next:=by
 obtain ⟨I,F⟩:=qX hk;have:=nb hl;unfold bu;rw [ae h.code,rm h,ae I,ab (by rw [F];omega)]
theorem nx (h:On p (u::r)):On p.next r:=h.next.1
theorem eQ (h:On p (u::r)):p.next.l=p.l/\p.next.e=p.e:=⟨h.next.2.1,h.next.2.2⟩
theorem aax (h:On p (u::r)):p.i < p.l.length:=by
 have:=congrArg List.length h.rest;rw [iM,length_cons] at this;omega
theorem WE (h:On p []):¬ p.i < p.l.length:=by
 have:=congrArg List.length h.rest;rw [iM,length_nil] at this;omega
theorem Ka {abg f:Nat} {st:PS} (h:p.code≠0) (hg:1<=abg):nY abg f p st=some (p,st):=by
 obtain ⟨abg,rfl⟩:∃ g',abg=g'+1:=⟨abg - 1,by omega⟩;rw [nY,ab (fun hc=>h hc.1)]
theorem zO {f:Nat} {acc:List ah} (h:p.code≠0) (hg:1<=f):pM f acc p=some (acc,p):=by
 obtain ⟨f,rfl⟩:∃ g',f=g'+1:=⟨f - 1,by omega⟩;rw [pM,ab (fun hc=>h hc.1),gM h]
end
theorem aas {f:Nat} {p:RS} {st:PS} {ts rest:List Tok} {s:ah} (hp:On p (ts++rest)) (ht:ts.map kf=NN s) (hs:bx s=true) :
  ∃ q,iW f p st=some (q,{ st with globals:=st.globals++[s] })/\bN p q (.ok rest):=by
 obtain ⟨u,r,rfl,I,ht⟩:=map_cons ht;obtain ⟨v,r,rfl,F,ht⟩:=map_cons ht;obtain ⟨w,rfl,h3⟩:=iP ht;simp only [cons_append,nil_append] at hp;have p1:=nx hp;have p2:=nx p1;have p3:=nx p2;refine ⟨p.next.next.next,?_,p3,by rw [(eQ p2).1,(eQ p1).1,(eQ hp).1],by rw [(eQ p2).2,(eQ p1).2,(eQ hp).2]⟩;unfold iW;rw [ae (BO hp I),y7 p1 F hs,LM p2 h3 aw,ab (by rintro ⟨_,h⟩;cases h),u7 p2 h3,rm p1,(qX F).2]
theorem aaq {f:Nat} {p:RS} {st:PS} {ts rest:List Tok} {a:Ar} (hp:On p (ts++rest)) (ht:ts.map kf=Jn a) (hs:bx a.name=true) :
  ∃ q,iW f p st=some (q,{ st with arrays:=st.arrays++[a] })/\bN p q (.ok rest):=by
 obtain ⟨u,r,rfl,I,ht⟩:=map_cons ht;obtain ⟨v,r,rfl,F,ht⟩:=map_cons ht;obtain ⟨w,r,rfl,h3,ht⟩:=map_cons ht;obtain ⟨x,r,rfl,h4,ht⟩:=map_cons ht;obtain ⟨y,r,rfl,h5,ht⟩:=map_cons ht;obtain ⟨z,rfl,h6⟩:=iP ht;simp only [cons_append,nil_append] at hp;have p1:=nx hp;have p2:=nx p1;have p3:=nx p2;have p4:=nx p3;have p5:=nx p4;have p6:=nx p5;refine ⟨p.next.next.next.next.next.next,?_,p6,by rw [(eQ p5).1,(eQ p4).1,(eQ p3).1,(eQ p2).1,(eQ p1).1,(eQ hp).1],by rw [(eQ p5).2,(eQ p4).2,(eQ p3).2,(eQ p2).2,(eQ p1).2,(eQ hp).2]⟩;unfold iW;rw [ae (BO hp I),y7 p1 F hs,ae ⟨p2.code,BO p2 h3⟩,rm p3,ae (QM h4).1,u7 p4 h5,u7 p5 h6,rm p1,(qX F).2,(QM h4).2]
theorem SX {rest:List Tok} {u:Tok} (hu:kf u=kS [41]):∀ (ps:List ah) (f:Nat) (acc:List ah) (p:RS) (ts:List Tok),ps.length < f->acc≠[]->cH ps=true->On p (ts++u::rest)->ts.map kf=vL ps ->
  ∃ q,pM f acc p=some (acc++ps,q)/\bN p q (.ok rest)
 | [],f,acc,p,ts,hf,ha,_,hp,ht=>by
  obtain ⟨f,rfl⟩:∃ g',f=g'+1:=⟨f - 1,by omega⟩
  have:ts=[]:=by simpa [vL] using ht
  subst this;rw [nil_append] at hp;refine ⟨p.next,?_,nx hp,eQ hp⟩;rw [pM,ab (by rw [BO hp hu];rintro ⟨_,h⟩;cases h),u7 hp hu,iy]
 | s::ps,f,acc,p,ts,hf,ha,hn,hp,ht=>by
  obtain ⟨f,rfl⟩:∃ g',f=g'+1:=⟨f - 1,by omega⟩;rw [vL] at ht;obtain ⟨v,r,rfl,I,ht⟩:=map_cons ht;obtain ⟨w,r,rfl,F,ht⟩:=map_cons ht;unfold cH at hn;rw [all_cons,aE] at hn;simp only [cons_append] at hp;have p1:=nx hp;have p2:=nx p1
  have VO:acc.length≠0:=fun h=>ha (gQ h)
  rw [length_cons] at hf
  obtain ⟨q,h3,h4⟩:=SX hu ps f (acc++[s]) p.next.next r aq (by simp) hn.2 p2 ht
  refine ⟨q,?_,h4.1,by rw [h4.2.1,(eQ p1).1,(eQ hp).1],by rw [h4.2.2,(eQ p1).2,(eQ hp).2]⟩;rw [pM,ae ⟨hp.code,LM hp I aw⟩,ab VO,u7 hp I,rm p1,(qX F).2,y7 p1 F hn.1,h3];simp
theorem X0 {rest:List Tok} {u:Tok} (hu:kf u=kS [41]) (ps:List ah) (f:Nat) (p:RS) (ts:List Tok) (hf:ps.length < f) (hn:cH ps=true) (hp:On p (ts++u::rest)) (ht:ts.map kf=HP ps) :
  ∃ q,pM f [] p=some (ps,q)/\bN p q (.ok rest):=by
 obtain ⟨f,rfl⟩:∃ g',f=g'+1:=⟨f - 1,by omega⟩
 match ps,hn,ht,hf with
 | [],_,ht,_ =>
  have:ts=[]:=by simpa [HP] using ht
  subst this;rw [nil_append] at hp;refine ⟨p.next,?_,nx hp,eQ hp⟩;rw [pM,ab (by rw [BO hp hu];rintro ⟨_,h⟩;cases h),u7 hp hu]
 | s::ps,hn,ht,hf =>
  rw [HP] at ht;obtain ⟨w,r,rfl,F,ht⟩:=map_cons ht;unfold cH at hn;rw [all_cons,aE] at hn;simp only [cons_append] at hp;have p2:=nx hp;rw [length_cons] at hf
  obtain ⟨q,h3,h4⟩:=SX hu ps f ([]++[s]) p.next r aq (by simp) hn.2 p2 ht
  refine ⟨q,?_,h4.1,by rw [h4.2.1,(eQ hp).1],by rw [h4.2.2,(eQ hp).2]⟩;rw [pM,ae ⟨hp.code,LM hp F (fun h=>by cases h)⟩,ae (by rfl),rm hp,(qX F).2,y7 hp F hn.1,h3];rfl
def fW (p:RS):Nat:=40 * p.l.length+100
theorem HQ:∀ ps:List ah,ps.length<=(vL ps).length
 | []=>aX _
 | s::r=>by have:=HQ r;rw [vL,length_cons,length_cons,length_cons];omega
theorem Ux (ps:List ah):ps.length<=(HP ps).length:=by
 cases ps with
 | nil=>exact aX _
 | cons s r=>have:=HQ r;rw [HP,length_cons,length_cons];omega
theorem On.len {p:RS} {ts:List Tok} (h:Go.Sp.On p ts):ts.length<=p.l.length:=by
 rw [<-h.rest,iM];omega
theorem Wo {f:Nat} {q:RS} {ts:List Tok} (hq:Go.Sp.On q ts) (hs:tZ q.l) (hf:fW q<=f):∃ t q',iS f (.block 1) q=some (t,q')/\jI q q' t (block q.e 1 ts):=by
 obtain ⟨t,q',I,F⟩:=(is_ (nr ts)).block 1 ts q hq hs w7;have:=On.len hq;exact ⟨t,q',I f (by unfold KI nr;unfold fW at hf;omega),F⟩
theorem aar {f:Nat} {p:RS} {st:PS} {ts rest:List Tok} {x:Fn × List S} (hp:On p (ts++rest)) (hs:tZ p.l) (hf:fW p<=f) (ht:ts.map kf=JP x) (I:bx x.1.name=true) (F:cH x.1.params=true) (h3:S.df x.2=true) :
  (eW x.2 1=true->∃ q t,iW f p st=some (q,{ st with trees:=st.trees++[t],fns:=st.fns++[(x.1.name,x.1.params)] })/\er t=bO x.2/\bN p q (.ok rest)) /\
  (eW x.2 1=false->∃ q ey,iW f p st=some (q,ey)/\q.code≠0):=by
 obtain ⟨u,r,rfl,k1,ht⟩:=map_cons ht;obtain ⟨v,r,rfl,k2,ht⟩:=map_cons ht;obtain ⟨w,r,rfl,k3,ht⟩:=map_cons ht;obtain ⟨A,r,rfl,k4,ht⟩:=dx ht;obtain ⟨y,r,rfl,k5,ht⟩:=map_cons ht;simp only [cons_append,iw] at hp;have p1:=nx hp;have p2:=nx p1;have p3:=nx p2
 have hl:p.next.next.next.l=p.l:=by rw [(eQ p2).1,(eQ p1).1,(eQ hp).1]
 have hA:x.1.params.length<=A.length:=by have:=Ux x.1.params;rw [<-k4,bS] at this;exact this
 have cX:=On.len p3;simp only [aZ] at cX;rw [hl] at cX
 have N3:x.1.params.length < f:=by unfold fW at hf;omega
 obtain ⟨q,h4,h5⟩:=X0 k5 x.1.params f p.next.next.next A N3 F p3 k4
 have rC:q.l=p.l:=h5.2.1.trans hl;obtain ⟨t,q',h6,h7⟩:=Wo (f:=f) h5.1 (by rw [rC];exact hs) (by unfold fW at hf |-;rw [rC];exact hf);obtain ⟨r1,r2⟩:=Gf (e:=q.e) (d:=1) (rest:=rest) h3 ht
 have hw:iW f p st=some (q',{ st with trees:=st.trees++[t],fns:=st.fns++[(x.1.name,x.1.params)] }):=by
  unfold iW;rw [ab (by rw [LM hp k1 aw];decide),ae (BO hp k1),y7 p1 k2 I,u7 p2 k3,h4];simp only;rw [ae h5.1.code,h6,rm p1,(qX k2).2]
 refine ⟨fun vJ=>?_,fun vJ=>?_⟩
 ·obtain ⟨t',j1,j2⟩:=r1 vJ;rw [j2] at h7;obtain ⟨rfl,j3⟩:=h7;exact ⟨q',t,hw,j1,j3.1,j3.2.1.trans rC,j3.2.2.trans (h5.2.2.trans (by rw [(eQ p2).2,(eQ p1).2,(eQ hp).2]))⟩
 ·obtain ⟨pos,j2⟩:=r2 vJ;rw [j2] at h7;exact ⟨q',_,hw,bN.err h7⟩
theorem rM {abg f:Nat} {p q:RS} {st ey:PS} {u:Tok} {r:List Tok} (hp:On p (u::r)) (h:iW f p st=some (q,ey)):nY (abg+1) f p st=nY abg f q ey:=by
 rw [nY,ae ⟨hp.code,aax hp⟩,h]
theorem S1 {f:Nat} {rest:List Tok}:∀ (gs:List ah) (p:RS) (st:PS) (ts:List Tok),On p (ts++rest)->ts.map kf=gs.flatMap NN->cH gs=true ->
  ∃ q,bN p q (.ok rest)/\∀ abg,nY (abg+gs.length) f p st=nY abg f q { st with globals:=st.globals++gs }
 | [],p,st,ts,hp,ht,_=>by
  have:ts=[]:=by simpa using ht
  subst this;exact ⟨p,On.self hp,fun abg=>by simp⟩
 | s::gs,p,st,ts,hp,ht,hn=>by
  rw [flatMap_cons] at ht;obtain ⟨A,B,rfl,I,F⟩:=dx ht;unfold cH at hn;rw [all_cons,aE] at hn;rw [iw] at hp;obtain ⟨q,h3,h4⟩:=aas (f:=f) (st:=st) hp I hn.1;obtain ⟨q',h5,h6⟩:=S1 gs q { st with globals:=st.globals++[s] } B h4.1 F hn.2;refine ⟨q',h4.tr h5,fun abg=>?_⟩;obtain ⟨u,r,rfl,_,_⟩:=map_cons I;rw [length_cons,<-gW,rM hp h3,h6];simp
theorem SY {f:Nat} {rest:List Tok}:∀ (as:List Ar) (p:RS) (st:PS) (ts:List Tok),On p (ts++rest)->ts.map kf=as.flatMap Jn->as.all ph=true ->
  ∃ q,bN p q (.ok rest)/\∀ abg,nY (abg+as.length) f p st=nY abg f q { st with arrays:=st.arrays++as }
 | [],p,st,ts,hp,ht,_=>by
  have:ts=[]:=by simpa using ht
  subst this;exact ⟨p,On.self hp,fun abg=>by simp⟩
 | s::gs,p,st,ts,hp,ht,hn=>by
  rw [flatMap_cons] at ht;obtain ⟨A,B,rfl,I,F⟩:=dx ht;rw [all_cons,aE] at hn;rw [iw] at hp
  have fy:bx s.name=true:=by have:=hn.1;unfold ph at this;simp only [aE] at this;exact this.1.1
  obtain ⟨q,h3,h4⟩:=aaq (f:=f) (st:=st) hp I fy;obtain ⟨q',h5,h6⟩:=SY gs q { st with arrays:=st.arrays++[s] } B h4.1 F hn.2;refine ⟨q',h4.tr h5,fun abg=>?_⟩;obtain ⟨u,r,rfl,_,_⟩:=map_cons I;rw [length_cons,<-gW,rM hp h3,h6];simp
def Xr (x:Fn × List S):Prop:=bx x.1.name=true/\cH x.1.params=true/\S.df x.2=true
theorem SZ {f:Nat}:∀ (xs:List (Fn × List S)) (p:RS) (st:PS) (ts:List Tok),On p ts->tZ p.l->fW p<=f->ts.map kf=xs.flatMap JP->(∀ x∈xs,Xr x) ->
  ((xs.all fun x=>eW x.2 1)=true->∃ q l,(∀ abg,xs.length < abg->nY abg f p st=some (q,{ st with trees:=st.trees++l,fns:=st.fns++xs.map fun x=>(x.1.name,x.1.params) }))/\q.code=0/\aQ l=xs.map fun x=>bO x.2) /\
  ((xs.all fun x=>eW x.2 1)=false->∃ q ey,(∀ abg,xs.length < abg->nY abg f p st=some (q,ey))/\q.code≠0)
 | [],p,st,ts,hp,_,_,ht,_=>by
  have:ts=[]:=by simpa using ht
  subst this;refine ⟨fun _=>⟨p,[],fun abg hG=>?_,hp.code,by rw [aQ];rfl⟩,fun h=>by cases h⟩;obtain ⟨abg,rfl⟩:∃ g',abg=g'+1:=⟨abg - 1,by rw [length_nil] at hG;omega⟩;rw [nY,ab (fun hc=>WE hp hc.2)];simp
 | x::xs,p,st,ts,hp,hs,hf,ht,hx=>by
  rw [flatMap_cons] at ht;obtain ⟨A,B,rfl,I,F⟩:=dx ht;obtain ⟨x1,x2,x3⟩:=hx x mem_cons_self;obtain ⟨k1,k2⟩:=aar (st:=st) hp hs hf I x1 x2 x3
  have cj:∃ u r,A++B=u::r:=by obtain ⟨u,r,rfl,_,_⟩:=map_cons I;exact ⟨u,_,rfl⟩
  obtain ⟨u,r,hu⟩:=cj;rw [hu] at hp
  cases hb:eW x.2 1 with
  | false =>
   obtain ⟨q,ey,k3,k4⟩:=k2 hb;refine ⟨fun h=>(by rw [all_cons,hb] at h;cases h),fun _=>⟨q,ey,fun abg hG=>?_,k4⟩⟩;obtain ⟨abg,rfl⟩:∃ g',abg=g'+1:=⟨abg - 1,by rw [length_cons] at hG;omega⟩;rw [rM hp k3,Ka k4 (by rw [length_cons] at hG;omega)]
  | true =>
   obtain ⟨q,t,k3,k4,k5⟩:=k1 hb;have rC:q.l=p.l:=k5.2.1;obtain ⟨j1,j2⟩:=SZ (f:=f) xs q { st with trees:=st.trees++[t],fns:=st.fns++[(x.1.name,x.1.params)] } B k5.1 (by rw [rC];exact hs) (by unfold fW at hf |-;rw [rC];exact hf) F (fun y hy=>hx y (cV _ hy));rw [all_cons,hb,Bool.true_and];refine ⟨fun h=>?_,fun h=>?_⟩
   ·obtain ⟨q',l,j3,j4,j5⟩:=j1 h;refine ⟨q',t::l,fun abg hG=>?_,j4,by rw [aQ,k4,j5];rfl⟩;obtain ⟨abg,rfl⟩:∃ g',abg=g'+1:=⟨abg - 1,by rw [length_cons] at hG;omega⟩;rw [rM hp k3,j3 abg (by rw [length_cons] at hG;omega)];simp
   ·obtain ⟨q',ey,j3,j4⟩:=j2 h;refine ⟨q',ey,fun abg hG=>?_,j4⟩;obtain ⟨abg,rfl⟩:∃ g',abg=g'+1:=⟨abg - 1,by rw [length_cons] at hG;omega⟩;rw [rM hp k3,j3 abg (by rw [length_cons] at hG;omega)]
theorem O7 (abg:List ah) (As:List Ar) (xs:List (Fn × List S)) (I:cH abg=true) (F:As.all ph=true) (h3:∀ x∈xs,Xr x) :
  ∃ ts,Tz (dC lk (dC a1 (dC g1 [] abg) As) xs) 0 ts (dC lk (dC a1 (dC g1 [] abg) As) xs).length /\
  (tZ ts->∀ (e:Int) (g f:Nat),ts.length+1<=g->40 * ts.length+100<=f ->
   ((xs.all fun x=>eW x.2 1)=true->∃ q l,nY g f ⟨ts,0,e,0,0⟩ .empty=some (q,⟨l,abg,As,xs.map fun x=>(x.1.name,x.1.params)⟩)/\q.code=0/\aQ l=xs.map fun x=>bO x.2) /\
   ((xs.all fun x=>eW x.2 1)=false->∃ q ey,nY g f ⟨ts,0,e,0,0⟩ .empty=some (q,ey)/\q.code≠0)):=by
 have l1:=zQ (f:=g1) (k:=NN) abg (fun s hs=>Yd (fE.1 I s hs)) [] [] eG.nil;have l2:=zQ (f:=a1) (k:=Jn) As (fun s hs=>Yb (fE.1 F s hs)) _ _ l1;have l3:=zQ (f:=lk) (k:=JP) xs (fun x hx=>by obtain ⟨a,b,c⟩:=h3 x hx;exact Yc a b c) _ _ l2;obtain ⟨ts,k1,k2⟩:=l3.all;refine ⟨ts,k2,fun hs e g f hg hf=>?_⟩;rw [nil_append] at k1;obtain ⟨A,C,rfl,k3,k4⟩:=dx k1;obtain ⟨A,B,rfl,k5,k6⟩:=dx k3;have E0:On ⟨(A++B)++C,0,e,0,0⟩ (A++(B++C)):=⟨rfl,aX _,by simp,k2.kinds⟩;obtain ⟨q1,j1,j2⟩:=S1 (f:=f) abg _ .empty A E0 k5 I;obtain ⟨q2,j3,j4⟩:=SY (f:=f) As q1 _ B j1.1 k6 F;have rC:q2.l=(A++B)++C:=(j1.tr j3).2.1;obtain ⟨j5,j6⟩:=SZ (f:=f) xs q2 { ({ PS.empty with globals:=PS.empty.globals++abg }:PS) with arrays:=PS.empty.arrays++As } C j3.1 (by rw [rC];exact hs) (by unfold fW;rw [rC];exact hf) k4 h3
 have c1:abg.length<=A.length:=by
  have:=congrArg List.length k5;rw [bS] at this;rw [this];clear this k5 j1 j2 j3 j4 j5 j6 rC E0 hs k1 k2 k3 l1 l2 l3 hf hg I
  induction abg with
  | nil=>exact aH _
  | cons s abg ih=>rw [flatMap_cons,aZ,length_cons];simp only [NN,length_cons,length_nil];omega
 have c2:As.length<=B.length:=by
  have:=congrArg List.length k6;rw [bS] at this;rw [this];clear this k6 j1 j2 j3 j4 j5 j6 rC E0 hs k1 k2 k3 l1 l2 l3 hf hg F
  induction As with
  | nil=>exact aH _
  | cons s abg ih=>rw [flatMap_cons,aZ,length_cons];simp only [Jn,length_cons,length_nil];omega
 have c3:xs.length<=C.length:=by
  have:=congrArg List.length k4;rw [bS] at this;rw [this];clear this k4 j1 j2 j3 j4 j5 j6 rC E0 hs k1 k2 k3 l1 l2 l3 hf hg h3
  induction xs with
  | nil=>exact aH _
  | cons s abg ih=>rw [flatMap_cons,aZ,length_cons];simp only [JP,length_cons];omega
 rw [aZ,aZ] at hg;have nO:∃ g',xs.length < g'/\g=g'+As.length+abg.length:=⟨g - As.length - abg.length,by omega,by omega⟩;obtain ⟨g',la,rfl⟩:=nO;rw [j2,j4];refine ⟨fun h=>?_,fun h=>?_⟩
 ·obtain ⟨q,l,j7,j8,j9⟩:=j5 h;exact ⟨q,l,j7 g' la,j8,j9⟩
 ·obtain ⟨q,ey,j7,j8⟩:=j6 h;exact ⟨q,ey,j7 g' la,j8⟩
structure Ds (st:PS):Prop where
 globals:cH st.globals=true
 arrays:st.arrays.all ph=true
 fns:∀ x∈st.fns,bx x.1=true/\cH x.2=true
 trees:∀ t∈st.trees,BF t
 len:st.fns.length=st.trees.length
theorem AM {a b:List ah} (h:cH a=true) (k:cH b=true):cH (a++b)=true:=by
 unfold cH at *;rw [List.all_append,h,k];rfl
theorem AN {s:ah} (h:bx s=true):cH [s]=true:=by
 unfold cH;rw [all_cons,h];rfl
theorem Sf.len {a b:List Tok} {n:Nat} (h:Sf a b n):b.length+n<=a.length:=by
 obtain ⟨p,rfl,h⟩:=h;rw [aZ];omega
theorem J8:∀ (f:Nat) (acc:List ah) (p:RS) (ts:List Tok),On p ts->sr ts->ts.length+1 < f->cH acc=true ->
  ∃ l q,pM f acc p=some (l,q)/\((∃ r n,bN p q (.ok r)/\cH l=true/\Sf ts r n)\/q.code≠0)
 | 0,acc,p,ts,_,_,hf,_=>by omega
 | f+1,acc,p,ts,hp,ho,hf,hn=>by
  rw [pM]
  by_cases hc:p.code=0/\is p 0 [41]=false
  ·rw [ae hc]
   have kp:(∃ r,bN p (if acc.length=0 then p else want p [44]) (.ok r)/\Sf ts r 0)\/(if acc.length=0 then p else want p [44]).code≠0:=by
    by_cases ha:acc.length=0
    ·rw [ae ha];exact .inl ⟨ts,On.self hp,.nil _⟩
    ·rw [ab ha]
     rcases mD hp (s:=[44]) aw with ⟨r,I,F⟩ | ⟨x,I,F⟩
     ·exact .inl ⟨r,F,(Sf.aP aw I).le (aX _)⟩
     ·exact .inr (bN.err F)
   generalize (if acc.length=0 then p else want p [44])=p' at *
   rcases kp with ⟨r,I,F⟩ | I
   ·rcases uN I.1 with ⟨r2,h3,h4⟩ | ⟨x,h3,h4⟩
    ·obtain ⟨k1,k2⟩:=Sf.name h3 (F.ok ho);have hlen:=(F.trans k1).len;obtain ⟨l,q,k3,k4⟩:=J8 f (acc++[(tok p' 0).s]) (bu p') r2 h4.1 ((F.trans k1).ok ho) aq (AM hn (AN k2));refine ⟨l,q,k3,?_⟩
     rcases k4 with ⟨r3,n,k5,k6,k7⟩ | k5
     ·exact .inl ⟨r3,_,(I.tr h4).tr k5,k6,(F.trans k1).trans k7⟩
     ·exact .inr k5
    ·exact ⟨_,_,zO (bN.err h4) aq,.inr (bN.err h4)⟩
   ·rw [OX I];exact ⟨_,_,zO I aq,.inr I⟩
  ·rw [ab hc]
   rcases mD hp (s:=[41]) aw with ⟨r,I,F⟩ | ⟨x,I,F⟩
   ·exact ⟨acc,_,rfl,.inl ⟨r,1,F,hn,Sf.aP aw I⟩⟩
   ·exact ⟨acc,_,rfl,.inr (bN.err F)⟩
theorem Wq {f:Nat} {p:RS} {st:PS} {u:Tok} {r0:List Tok} (hp:On p (u::r0)) (ho:sr (u::r0)) (hs:tZ p.l) (hf:fW p<=f) (bI:Ds st) :
  ∃ q ey,iW f p st=some (q,ey)/\((∃ r n,bN p q (.ok r)/\Ds ey/\Sf (u::r0) r (n+1)/\aC ey.trees<=n+1+aC st.trees)\/q.code≠0):=by
 have p1:=nx hp;have gk:=Sf.one u r0;unfold iW
 by_cases I:is p 0 mg=true
 ·rw [ae I]
  rcases uN p1 with ⟨r1,a1,a2⟩ | ⟨x,a1,a2⟩
  ·obtain ⟨b1,b2⟩:=Sf.name a1 (gk.ok ho);have b3:=gk.trans b1;have a3:bN p (bu p.next) (.ok r1):=(On.next hp).tr a2
   by_cases F:(bu p.next).code=0/\is (bu p.next) 0 [91]=true
   ·rw [ae F]
    have h3:sign r1 0=[91]:=by
     have:=On.is a2.1 0 (s:=[91]) aw;rw [F.2] at this;simpa using this.symm
    obtain ⟨v,h4,_⟩:=uW aw h3;have b4:=b3.trans (Sf.sign aw h3);have p2:=a2.1;rw [h4] at p2
    have a4:bN p (bu p.next).next (.ok r1.tail):=a3.tr (On.next p2)
    have p3:=nx p2
    by_cases h5:(tok (bu p.next).next 0).kind=1
    ·rw [ae h5]
     cases hr:r1.tail with
     | nil =>
      rw [hr] at p3;have:=On.tok p3 0;rw [this] at h5;cases h5
     | cons w r3 =>
      rw [hr] at p3 a4 b4;have p4:=nx p3;have b5:=b4.trans (Sf.one w r3);have a5:=a4.tr (On.next p3);rw [rm p3] at h5;have hw:=(b4.ok ho w mem_cons_self).num h5
      rcases mD p4 (s:=[93]) aw with ⟨r4,c1,c2⟩ | ⟨x,c1,c2⟩
      ·rcases mD c2.1 (s:=[59]) aw with ⟨r5,d1,d2⟩ | ⟨x,d1,d2⟩
       ·refine ⟨_,_,rfl,.inl ⟨r5,0,(a5.tr c2).tr d2,⟨bI.globals,?_,bI.fns,bI.trees,bI.len⟩,((b5.trans (Sf.aP aw c1)).trans (Sf.aP aw d1)).le aq,by simp only;omega⟩⟩;simp only;rw [List.all_append,bI.arrays,all_cons,List.all_nil,Bool.and_true,Bool.true_and];unfold ph;rw [rm p3,b2];simp only [aE,Bool.not_eq_true',decide_eq_false_iff_not];exact ⟨⟨trivial,by omega⟩,by omega⟩
       ·exact ⟨_,_,rfl,.inr (bN.err d2)⟩
      ·refine ⟨_,_,rfl,.inr ?_⟩;rw [gM (bN.err c2)];exact bN.err c2
    ·rw [ab h5];exact ⟨_,_,rfl,.inr (bN.err (On.kX p3))⟩
   ·rw [ab F]
    rcases mD a2.1 (s:=[59]) aw with ⟨r4,c1,c2⟩ | ⟨x,c1,c2⟩
    ·exact ⟨_,_,rfl,.inl ⟨r4,0,a3.tr c2,⟨AM bI.globals (AN b2),bI.arrays,bI.fns,bI.trees,bI.len⟩,(b3.trans (Sf.aP aw c1)).le aq,by simp only;omega⟩⟩
    ·exact ⟨_,_,rfl,.inr (bN.err c2)⟩
  ·rw [ab (fun h=>bN.err a2 h.1),gM (bN.err a2)];exact ⟨_,_,rfl,.inr (bN.err a2)⟩
 ·rw [ab I]
  by_cases F:is p 0 nB=true
  ·rw [ae F]
   rcases uN p1 with ⟨r1,a1,a2⟩ | ⟨x,a1,a2⟩
   ·obtain ⟨b1,b2⟩:=Sf.name a1 (gk.ok ho);have b3:=gk.trans b1;have a3:bN p (bu p.next) (.ok r1):=(On.next hp).tr a2
    rcases mD a2.1 (s:=[40]) aw with ⟨r2,c1,c2⟩ | ⟨x,c1,c2⟩
    ·have b4:=b3.trans (Sf.aP aw c1);have a4:=a3.tr c2;have hl:=On.len c2.1;have kE:(want (bu p.next) [40]).l=p.l:=a4.2.1;obtain ⟨l,q,k1,k2⟩:=J8 f [] _ r2 c2.1 (b4.ok ho) (by rw [kE] at hl;unfold fW at hf;omega) rfl;rw [k1];simp only
     rcases k2 with ⟨r3,n,k3,k4,k5⟩ | k3
     ·have a5:=a4.tr k3;have rC:q.l=p.l:=a5.2.1;rw [ae k3.1.code];obtain ⟨t,q',k6,k7⟩:=Wo (f:=f) k3.1 (by rw [rC];exact hs) (by unfold fW at hf |-;rw [rC];exact hf);rw [k6];simp only;have b5:=b4.trans k5
      cases hb:block q.e 1 r3 with
      | error x=>rw [hb] at k7;exact ⟨_,_,rfl,.inr (bN.err k7)⟩
      | ok y =>
       obtain ⟨t',r4⟩:=y;rw [hb] at k7;obtain ⟨rfl,k7⟩:=k7;obtain ⟨k8,k9⟩:=Ll (b5.ok ho) hb;refine ⟨_,_,rfl,.inl ⟨r4,n+aO t+2,a5.tr k7,⟨bI.globals,bI.arrays,?_,?_,?_⟩,(b5.trans k9).le aq,?_⟩⟩
       ·intro x hx
        rcases qp hx with hx | hx
        ·exact bI.fns x hx
        ·rw [mem_singleton] at hx;subst hx;exact ⟨b2,k4⟩
       ·intro x hx
        rcases qp hx with hx | hx
        ·exact bI.trees x hx
        ·rw [mem_singleton] at hx;subst hx;exact k8
       ·simp only [aZ,length_cons,length_nil];have:=bI.len;omega
       ·simp only [nJ,aC];omega
     ·rw [ab k3];exact ⟨_,_,rfl,.inr k3⟩
    ·rw [zO (bN.err c2) (by unfold fW at hf;omega)];simp only;rw [ab (bN.err c2)];exact ⟨_,_,rfl,.inr (bN.err c2)⟩
   ·rw [gM (bN.err a2),zO (bN.err a2) (by unfold fW at hf;omega)];simp only;rw [ab (bN.err a2)];exact ⟨_,_,rfl,.inr (bN.err a2)⟩
  ·rw [ab F];exact ⟨_,_,rfl,.inr (bN.err (On.kX hp))⟩
theorem J9 {f:Nat}:∀ (abg:Nat) (p:RS) (st:PS) (ts:List Tok),On p ts->sr ts->tZ p.l->fW p<=f->Ds st->ts.length < abg ->
  ∃ q ey,nY abg f p st=some (q,ey)/\(q.code=0->Ds ey/\aC ey.trees<=ts.length+aC st.trees)
 | 0,p,st,ts,_,_,_,_,_,hG=>by omega
 | abg+1,p,st,ts,hp,ho,hs,hf,bI,hG=>by
  cases ts with
  | nil =>
   rw [nY,ab (fun hc=>WE hp hc.2)];exact ⟨p,st,rfl,fun _=>⟨bI,by simp⟩⟩
  | cons u r0 =>
   obtain ⟨q,ey,I,F⟩:=Wq hp ho hs hf bI;rw [rM hp I];rw [length_cons] at hG
   rcases F with ⟨r,n,h3,h4,h5,h6⟩ | h3
   ·have hl:=h5.len;rw [length_cons] at hl;have rC:q.l=p.l:=h3.2.1;obtain ⟨q',st2,k1,k2⟩:=J9 abg q ey r h3.1 (h5.ok ho) (by rw [rC];exact hs) (by unfold fW at hf |-;rw [rC];exact hf) h4 aq;exact ⟨q',st2,k1,fun hc=>by obtain ⟨k3,k4⟩:=k2 hc;exact ⟨k3,by rw [length_cons];omega⟩⟩
   ·exact ⟨q,ey,Ka h3 aq,fun hc=>absurd hc h3⟩
def pS (st:PS):List Fn:=st.fns.mapIdx fun i x=>⟨x.1,x.2,((aC (st.trees.take i):Nat):Int)⟩
def same (p:Src) (st:PS):Bool:=fQ (fun x y=>x==y) p.globals st.globals&&(fQ Aq p.arrays st.arrays&&(fQ sn p.fns (pS st)&&fQ lQ p.nodes (eK 0 st.trees)))
structure Reads (x:ah) (ts:List Tok) (c z:Int) (q:RS) (st:PS):Prop where
 lex:nQ x (x.length+1) 0 []=some (ts,c,z)
 len:ts.length<=x.length
 read:nY (ts.length+1) (40 * ts.length+100) ⟨ts,0,(x.length:Int),0,0⟩ .empty=some (q,st)
 ok:q.code=0->Ds st/\aC st.trees<=ts.length
theorem reads (x:ah):∃ ts c z q st,Reads x ts c z q st:=by
 obtain ⟨ts,c,z,I,F,h3,h4⟩:=sK x (x.length+1) 0 [] (aX _) aq (fun t h=>by simp at h) .nil (fun t h=>by simp at h) (aH _);have E0:On ⟨ts,0,(x.length:Int),0,0⟩ ts:=⟨rfl,aX _,rfl,fun t ht=>(F t ht).kinds⟩;obtain ⟨q,st,h5,h6⟩:=J9 (f:=40 * ts.length+100) (ts.length+1) _ .empty ts E0 F h3 (aH _) ⟨rfl,rfl,fun x h=>(by cases h),fun x h=>(by cases h),rfl⟩ aq;exact ⟨ts,c,z,q,st,I,h4,h5,fun h=>by obtain ⟨a,b⟩:=h6 h;exact ⟨a,by simpa [PS.empty,aC] using b⟩⟩
structure Forms (l:List T) (ls:List (List S)):Prop where
 len:ls.length=l.length
 at_:∀ (i:Nat) t b,l[i]?=some t->ls[i]?=some b->S.df b=true/\er t=bO b
theorem GY:∀ (l:List T),(∀ t∈l,BF t)->∃ ls,Forms l ls
 | [],_=>⟨[],rfl,fun i t b h=>by simp at h⟩
 | t::l,h=>by
  obtain ⟨b,I,F⟩:=h t mem_cons_self
  obtain ⟨ls,h3⟩:=GY l fun u hu=>h u (cV _ hu)
  refine ⟨b::ls,by simp [h3.len],fun i t' b' k1 k2=>?_⟩
  cases i with
  | zero=>cases k1;cases k2;exact ⟨I,F⟩
  | succ i=>exact h3.at_ i t' b' (by simpa using k1) (by simpa using k2)
theorem gB.mem {Q:Fn->T->Prop}:∀ {fns:List Fn} {a:Nat} {l:List T},gB Q fns a l->(∀ f∈fns,∃ t∈l,Q f t)/\(∀ t∈l,∃ f∈fns,Q f t)
 | [],_,[],_=>⟨fun f h=>(by cases h),fun f h=>(by cases h)⟩
 | f::r,a,t::l,h=>by
  rw [gB] at h;obtain ⟨k1,k2⟩:=gB.mem h.2.2;refine ⟨fun g hg=>?_,fun u hu=>?_⟩
  ·rcases ei hg with rfl | hg
   ·exact ⟨t,mem_cons_self,h.2.1⟩
   ·obtain ⟨u,a,b⟩:=k1 g hg;exact ⟨u,cV _ a,b⟩
  ·rcases ei hu with rfl | hu
   ·exact ⟨f,mem_cons_self,h.2.1⟩
   ·obtain ⟨g,a,b⟩:=k2 u hu;exact ⟨g,cV _ a,b⟩
 | [],_,t::l,h=>by cases h
 | f::r,_,[],h=>by cases h
theorem gR.Lu {p:Src} {l:List T} (h:gR p l):∃ ls,Forms l ls:=by
 refine GY l fun t ht=>?_
 obtain ⟨f,_,I⟩:=(gB.mem h.fns).2 t ht;exact toB I.all I.kind
theorem gR.at_ {p:Src} {l:List T} (h:gR p l):mV l:=by
 have:∀ l:List T,(∀ t∈l,du t=true)->mV l:=by
  intro l
  induction l with
  | nil=>intro _;trivial
  | cons t l ih=>intro h;rw [mV];exact ⟨MR t (h t mem_cons_self),ih fun u hu=>h u (cV _ hu)⟩
 refine this l fun t ht=>?_
 obtain ⟨f,_,I⟩:=(gB.mem h.fns).2 t ht;exact I.all
theorem gR.EA {p:Src} {l:List T} (h:gR p l):jE p.nodes p.fns 0 []=some (l,p.nodes.length):=by
 rw [Ju p.fns 0 [] l h.st h.fns h.at_,h.len];simp
theorem gR.k {p:Src} {l:List T} (h:gR p l):l.all fo=true:=by
 rw [fE];intro t ht;obtain ⟨f,_,I⟩:=(gB.mem h.fns).2 t ht;exact R5 t I.all
theorem NH {l:List T} {ls:List (List S)} (h:Forms l ls):aQ l=ls.map bO:=by
 rw [tM];apply List.ext_getElem?;intro i;rw [aV,aV];have hl:=h.len
 cases I:l[i]? with
 | none =>
  rw [List.getElem?_eq_none_iff] at I;rw [List.getElem?_eq_none_iff.2 aq];rfl
 | some t =>
  have hi:=(bh I).1
  have F:ls[i]?=some (ls[i]'aq):=by simp [hl,hi]
  rw [F];exact congrArg some (h.at_ i t _ I F).2
theorem zip_fst {α β:Type}:∀ (a:List α) (b:List β),a.length=b.length->(a.zip b).map Prod.fst=a
 | [],[],_=>rfl
 | x::a,y::b,h=>by rw [zip_cons_cons,List.map_cons,zip_fst a b (by simpa using h)]
 | [],y::b,h=>by simp at h
 | x::a,[],h=>by simp at h
theorem El {α β:Type}:∀ (a:List α) (b:List β),a.length=b.length->(a.zip b).map Prod.snd=b
 | [],[],_=>rfl
 | x::a,y::b,h=>by rw [zip_cons_cons,List.map_cons,El a b (by simpa using h)]
 | [],y::b,h=>by simp at h
 | x::a,[],h=>by simp at h
theorem zj (l:List T) (i:Nat):aC (l.take i)=aC ((aQ l).take i):=by
 rw [tM,<-List.map_take,<-tM,wP]
theorem W2 {p:Src} {l:List T} {l':List T} {ls:List (List S)} (h:gR p l) (he:aQ l'=aQ l):same p ⟨l',p.globals,p.arrays,p.fns.map fun x=>(x.name,x.params)⟩=true:=by
 unfold same;simp only [aE];refine ⟨rK (fun x=>by simp) _,rK (fun x=>by simp [Aq]) _,?_,?_⟩
 ·have:pS ⟨l',p.globals,p.arrays,p.fns.map fun x=>(x.name,x.params)⟩=p.fns:=by
   unfold pS;apply List.ext_getElem?;intro i;simp only [List.getElem?_mapIdx,aV]
   cases hf:p.fns[i]? with
   | none=>rfl
   | some f =>
    have hlen:=gB.len h.fns;have hi:=(bh hf).1
    have ht:l[i]?=some (l[i]'aq):=by simp [<-hlen,hi]
    have hb:=(gB.at_ h.fns i f _ hf ht).1;rw [fk,zj,<-he,<-zj] at hb;simp only [Option.map_some];rw [<-hb]
  rw [this];refine rK (fun x=>?_) _;simp [sn,rK]
 ·rw [dD.all h.st h.len];exact DG _ _ 0 he.symm
theorem Wu {p:Src} {l:List T} {ls:List (List S)} (h:gR p l) (hf:Forms l ls):nP dh gq p l=dC lk (dC a1 (dC g1 [] p.globals) p.arrays) (p.fns.zip ls):=by
 unfold nP
 refine M7 _ _ _ _ hf.len fun i t b I F=>?_
 obtain ⟨h3,h4⟩:=hf.at_ i t b I F;rw [<-MX,h4];exact vV b h3 0
theorem Mo {p:Src} {l:List T} {ls:List (List S)} (h:gR p l) (hf:Forms l ls) {ts:List Tok} {c z:Int} {q:RS} {st:PS} (hr:Reads (nP dh gq p l) ts c z q st) :
  c=0/\((ls.all fun b=>eW b 1)=true->q.code=0/\aC st.trees<=800/\same p st=true)/\((ls.all fun b=>eW b 1)=false->q.code≠0):=by
 have hx:=Wu h hf;have hlen:=gB.len h.fns;have ow:=hf.len
 have oz:∀ x∈p.fns.zip ls,Xr x:=by
  intro x hx;obtain ⟨f,b⟩:=x;obtain ⟨i,hi⟩:=List.getElem?_of_mem hx;rw [List.getElem?_zip_eq_some] at hi;have td:=(bh hi.2).1
  have ht:l[i]?=some (l[i]'aq):=by simp [<-ow,td]
  have I:=(gB.at_ h.fns i f _ hi.1 ht).2;exact ⟨I.name,I.params,(hf.at_ i _ b ht hi.2).1⟩
 obtain ⟨us,I,F⟩:=O7 p.globals p.arrays (p.fns.zip ls) h.globals h.arrays oz;rw [<-hx] at I;have h3:=Um I rfl ((nP dh gq p l).length+1) [] aq;rw [nil_append,hr.lex] at h3;simp only [Option.some.injEq,Prod.mk.injEq] at h3;obtain ⟨rfl,rfl,rfl⟩:=h3
 have aam:tZ ts:=by
  obtain ⟨jz,c',z',k1,k2,k3,k4⟩:=sK (nP dh gq p l) ((nP dh gq p l).length+1) 0 [] (aX _) aq (fun t h=>by simp at h) .nil (fun t h=>by simp at h) (aH _);rw [hr.lex] at k1;cases k1;exact k3
 obtain ⟨h4,h5⟩:=F aam ((nP dh gq p l).length:Int) (ts.length+1) (40 * ts.length+100) (aH _) (aH _)
 have aY:((p.fns.zip ls).all fun x=>eW x.2 1)=ls.all fun b=>eW b 1:=by
  have:ls=(p.fns.zip ls).map Prod.snd:=(El _ _ aq).symm
  conv=>rhs;rw [this]
  rw [List.all_map];rfl
 rw [aY] at h4 h5;refine ⟨rfl,fun vJ=>?_,fun vJ=>?_⟩
 ·obtain ⟨q',l',k1,k2,k3⟩:=h4 vJ;rw [hr.read] at k1;simp only [Option.some.injEq,Prod.mk.injEq] at k1;obtain ⟨rfl,rfl⟩:=k1
  have e1:((p.fns.zip ls).map fun x=>bO x.2)=ls.map bO:=by
   have:ls=(p.fns.zip ls).map Prod.snd:=(El _ _ aq).symm
   conv=>rhs;rw [this]
   rw [map_map];rfl
  have e2:((p.fns.zip ls).map fun x=>(x.1.name,x.1.params))=p.fns.map fun x=>(x.name,x.params):=by
   have:p.fns=(p.fns.zip ls).map Prod.fst:=(zip_fst _ _ aq).symm
   conv=>rhs;rw [this]
   rw [map_map];rfl
  have he:aQ l'=aQ l:=by rw [k3,e1,NH hf]
  refine ⟨k2,?_,?_⟩
  ·simp only;rw [<-wP,he,wP,h.len];exact h.few
  ·rw [e2];exact W2 (ls:=ls) h he
 ·obtain ⟨q',ey,k1,k2⟩:=h5 vJ;rw [hr.read] at k1;simp only [Option.some.injEq,Prod.mk.injEq] at k1;obtain ⟨rfl,rfl⟩:=k1;exact k2
theorem JI {α:Type} {p:α->α->Bool} {a b:List α} (h:fQ p a b=true) {x:α} (hx:x∈a):∃ y∈b,p x y=true:=by
 obtain ⟨i,hi⟩:=List.getElem?_of_mem hx;have hl:=zF h;have ar:=(bh hi).1
 have hb:b[i]?=some (b[i]'aq):=by simp [<-hl,ar]
 exact ⟨_,bm hb,Gr hi hb h⟩
theorem Mg {p:Src} {l:List T} (hn:p.nodes.length<=800) (hb:jE p.nodes p.fns 0 []=some (l,p.nodes.length)) {st:PS} (eT:Ds st) (hs:same p st=true):gR p l:=by
 obtain ⟨l',I,F,h3,h4,h5⟩:=Dy _ _ _ _ _ hb;rw [nil_append] at I;subst I;unfold same at hs;simp only [aE] at hs;obtain ⟨s1,s2,s3,s4⟩:=hs
 have hz:aC l=p.nodes.length:=by omega
 have V5:=dD.all F hz;rw [V5] at s4
 have hlen:l.length=st.trees.length:=by
  have a1:=gB.len h3;have a2:=zF s3;unfold pS at a2;rw [List.length_mapIdx] at a2;have:=eT.len;omega
 have he:=UJ hlen s4
 have fL:∀ f∈p.fns,bx f.name=true/\cH f.params=true:=by
  intro f hf;obtain ⟨g,hg,hp⟩:=JI s3 hf;unfold pS at hg;obtain ⟨i,hi⟩:=List.getElem?_of_mem hg;rw [List.getElem?_mapIdx] at hi
  cases hx:st.fns[i]? with
  | none=>rw [hx] at hi;cases hi
  | some x =>
   rw [hx] at hi;cases hi;simp only [sn,aE,beq_iff_eq] at hp;obtain ⟨⟨k1,k2⟩,_⟩:=hp;obtain ⟨k3,k4⟩:=eT.fns x (bm hx);rw [k1,zE k2];exact ⟨k3,k4⟩
 have Zc:∀ t∈l,t.n.kind=14/\du t=true:=by
  intro t ht
  have h6:er t∈aQ l:=by rw [tM];exact List.mem_map_of_mem ht
  rw [he,tM] at h6;obtain ⟨u,hu,h7⟩:=tI.1 h6;obtain ⟨b,k1,k2⟩:=eT.trees u hu;rw [h7] at k2
  have pF:yi t:=by
   have:∀ l:List T,mV l->t∈l->yi t:=by
    intro l
    induction l with
    | nil=>intro _ h;cases h
    | cons v l ih =>
     intro h hm;rw [mV] at h
     rcases ei hm with rfl | hm
     ·exact h.1
     ·exact ih h.2 hm
   exact this l h5 ht
  refine ⟨?_,MS t (by rw [k2];exact S.vW b k1) pF⟩;have:=congrArg (fun x=>x.n.kind) k2;simp only [yr] at this;exact this
 refine ⟨?_,?_,F,gB.mono h3 fun f t hf ht _=>⟨(fL f hf).1,(fL f hf).2,(Zc t ht).1,(Zc t ht).2⟩,hz,hn⟩
 ·rw [zE s1];exact eT.globals
 ·rw [fE];intro a ha;obtain ⟨b,hb,hp⟩:=JI s2 ha;have h6:=fE.1 eT.arrays b hb;simp only [Aq,aE,beq_iff_eq] at hp;unfold ph at h6 |-;rw [hp.1,hp.2];exact h6
def bs {α:Type} (f:α->Nat):List α->Nat
 | []=>0
 | x::l=>f x+bs f l
theorem B6 {α:Type} (f:α->Nat) (a b:List α):bs f (a++b)=bs f a+bs f b:=by
 induction a with
 | nil=>simp [bs]
 | cons x a ih=>simp only [cons_append,bs,ih];omega
theorem UP {α:Type} {f g:α->Nat} {l:List α} (h:∀ x∈l,f x<=g x):bs f l<=bs g l:=by
 induction l with
 | nil=>exact aH _
 | cons x l ih =>
  have I:=h x mem_cons_self
  have F:=ih fun y hy=>h y (cV _ hy)
  simp only [bs];omega
theorem oF {α:Type} {f:α->Nat} {l:List α} {x:α} (h:x∈l):f x<=bs f l:=by
 induction l with
 | nil=>cases h
 | cons y l ih =>
  rw [bs]
  rcases ei h with rfl | h
  ·omega
  ·have:=ih h;omega
theorem rW {α:Type} {f g:α->Nat} {k:Nat} {l:List α} (h:∀ x∈l,f x<=k * g x):bs f l<=k * bs g l:=by
 induction l with
 | nil=>exact aX _
 | cons x l ih =>
  have I:=h x mem_cons_self
  have F:=ih fun y hy=>h y (cV _ hy)
  simp only [bs,Nat.mul_add];omega
theorem uY {α:Type} (f:α->Nat) (l:List α) (h:∀ x∈l,1<=f x):l.length<=bs f l:=by
 induction l with
 | nil=>exact aX _
 | cons x l ih =>
  have I:=h x mem_cons_self
  have F:=ih fun y hy=>h y (cV _ hy)
  rw [bs,length_cons];omega
theorem Il {α β:Type} (f:α->Nat) (g:β->Nat):∀ (a:List α) (b:List β),bs (fun x:α × β=>f x.1+g x.2) (a.zip b)<=bs f a+bs g b
 | [],b=>by simp [bs]
 | x::a,[]=>by simp [bs]
 | x::a,y::b=>by
  have:=Il f g a b;simp only [zip_cons_cons,bs] at *;omega
theorem xa {α:Type} (f:α->ah):∀ (l:List α) (acc:ah),(dC f acc l).length=acc.length+bs (fun x=>(f x).length) l
 | [],acc=>by simp [dC,bs]
 | x::l,acc=>by rw [dC,xa f l,aZ,bs];omega
def tE (n:Nd):Nat:=n.s.length+60
mutual
theorem Xq:∀ (t:T) (a:Nat),kU t=bs tE (mH a t)
 | .mk n l,a=>by rw [kU,mH,bs,Ad l (a+1),tE]
theorem Ad:∀ (l:List T) (a:Nat),gV l=bs tE (eK a l)
 | [],a=>rfl
 | t::r,a=>by rw [gV,eK,B6,Xq t a,Ad r (a+aO t)]
end
def wi (l:List T) (i:Nat):Nat:=match l[i]? with | some t=>kU t | none=>0
theorem aaF (l:List T):wi l 0+wi l 1+wi l 2<=gV l:=by
 match l with
 | []=>simp [wi]
 | [a]=>simp only [wi,gV];simp
 | [a,b]=>simp only [wi,gV];simp
 | a::b::c::r=>simp only [wi,gV];simp;omega
theorem JV {l:List T} {f:T->ah} (h:∀ t∈l,(f t).length<=kU t) (i:Nat):((l.map f).getD i []).length<=wi l i:=by
 rw [List.getD_eq_getElem?_getD,aV];unfold wi
 cases hi:l[i]? with
 | none=>simp
 | some t=>exact h t (bm hi)
theorem KN {l:List T} {t:T} (h:t∈l):aO t<=aC l:=by
 induction l with
 | nil=>cases h
 | cons a l ih =>
  rw [aC]
  rcases ei h with rfl | h
  ·omega
  ·have:=ih h;omega
theorem KL {f:T->ah}:∀ {l:List T},(∀ t∈l,(f t).length+4<=kU t)->ln (l.map f)<=gV l
 | [],_=>aX _
 | t::l,h=>by
  have I:=h t mem_cons_self
  have F:=KL (l:=l) fun y hy=>h y (cV _ hy)
  rw [List.map_cons,ln,gV];omega
theorem W7:∀ (N:Nat) (t:T),aO t<=N->ra t->∀ d,(kQ dh gq d t).length+4<=kU t/\(nU dh gq d t).length<=kU t:=by
 intro N
 induction N with
 | zero=>intro t h;have:=jq t;omega
 | succ N ih =>
  intro t hN hn d;have cB:=eO t;rw [rS] at hn
  have hk:∀ a∈t.kids,∀ d,(kQ dh gq d a).length+4<=kU a/\(nU dh gq d a).length<=kU a:=fun a ha d=>ih a (by have:=KN ha;omega) (ku hn.2 ha) d
  have hx:=JV (l:=t.kids) (f:=dh) (fun a ha=>by have:=wR (aO a) a (aH _) (ku hn.2 ha);omega);have hb:=JV (l:=t.kids) (f:=nU dh gq d) (fun a ha=>(hk a ha d).2);have h3:=aaF t.kids;have hw:=pR t;have fg:=wR (aO t) t (aH _) ((rS t).2 hn);have x0:=hx 0;have x1:=hx 1;have b1:=hb 1;have b2:=hb 2;constructor
  ·rw [Pn,Jt];unfold yc;split
   ·simp only [aZ,length_cons,length_nil];omega
   split
   ·simp only [aZ,length_cons,length_nil];omega
   split
   ·simp only [aZ,length_cons,length_nil];omega
   split
   ·split
    ·simp only [aZ,length_cons,length_nil];omega
    ·simp only [aZ,length_cons,length_nil];omega
   split
   ·simp only [aZ,length_cons,length_nil];omega
   split
   ·simp only [aZ,length_cons,length_nil];omega
   split
   ·simp only [aZ,length_cons,length_nil];omega
   ·omega
  ·rw [MW,KG]
   have:=KL (f:=kQ dh gq (d+1)) (l:=t.kids) fun a ha=>(hk a ha (d+1)).1
   have e:∀ l:List ah,(gq l d).length=3+ln l:=fun l=>by
    unfold gq;rw [aZ,ug];simp only [length_cons,length_nil];omega
   rw [e];omega
def wS (l:List ah):Nat:=bs (fun s=>s.length+1) l
def dk (p:Src):Nat:=wS p.globals+bs (fun a:Ar=>a.name.length+1) p.arrays+bs (fun f:Fn=>f.name.length+wS f.params+1) p.fns+bs (fun n:Nd=>n.s.length+n.kids.length+1) p.nodes
structure kz (p:Src):Prop where
 arrays:∀ a∈p.arrays,-9223372036854775808<=a.size/\a.size<=9223372036854775807
 nodes:∀ n∈p.nodes,-9223372036854775808<=n.n/\n.n<=9223372036854775807
mutual
theorem dV.num {nodes:List Nd} (h:∀ n∈nodes,-9223372036854775808<=n.n/\n.n<=9223372036854775807):∀ (t:T) (a:Nat),dV nodes a t->ra t
 | .mk n l,a,hs=>by
  rw [dV] at hs;rw [ra];exact ⟨h n (bm hs.1),dD.num h l _ hs.2.2⟩
theorem dD.num {nodes:List Nd} (h:∀ n∈nodes,-9223372036854775808<=n.n/\n.n<=9223372036854775807):∀ (l:List T) (a:Nat),dD nodes a l->rb l
 | [],a,_=>trivial
 | t::r,a,hs=>by
  rw [dD] at hs;rw [rb];exact ⟨dV.num h t a hs.1,dD.num h r _ hs.2⟩
end
theorem RC (l:List ah):(l.map fun y=>y.length+2).sum=bs (fun s=>s.length+2) l:=by
 induction l with
 | nil=>rfl
 | cons s l ih=>rw [List.map_cons,sum_cons,ih,bs]
theorem Iz (l:List T):gV l=bs kU l:=by
 induction l with
 | nil=>rfl
 | cons t l ih=>rw [gV,bs,ih]
theorem Ug {p:Src} {l:List T} (hn:kz p) (hs:dD p.nodes 0 l) (hz:aC l=p.nodes.length):(nP dh gq p l).length<=100 * dk p:=by
 have jh:=dD.num hn.nodes l 0 hs
 have e1:bs (fun s=>(g1 s).length) p.globals<=100 * wS p.globals:=rW fun s _=>by simp only [g1,aZ,length_cons,length_nil];omega
 have e2:bs (fun a=>(a1 a).length) p.arrays<=100 * bs (fun a:Ar=>a.name.length+1) p.arrays:=rW fun a ha=>by
  have:=yV (hn.arrays a ha);simp only [a1,aZ,length_cons,length_nil];omega
 have e3:bs (fun x=>(c8 dh gq x).length) (p.fns.zip l)<=bs (fun x:Fn × T=>(fun f:Fn=>100 * (f.name.length+wS f.params+1)) x.1+kU x.2) (p.fns.zip l):=UP fun x hx=>by
  have I:=(W7 (aO x.2) x.2 (aH _) (ku jh (List.of_mem_zip hx).2) 0).2;have F:=BP x.1.params;rw [RC] at F
  have h3:bs (fun s=>s.length+2) x.1.params<=2 * wS x.1.params:=rW fun s _=>by omega
  simp only [c8,aZ,length_cons,length_nil];omega
 have e4:=Il (fun f:Fn=>100 * (f.name.length+wS f.params+1)) kU p.fns l
 have e5:bs (fun f:Fn=>100 * (f.name.length+wS f.params+1)) p.fns<=100 * bs (fun f:Fn=>f.name.length+wS f.params+1) p.fns:=rW fun f _=>aH _
 have e6:bs tE p.nodes<=100 * bs (fun n:Nd=>n.s.length+n.kids.length+1) p.nodes:=rW fun n _=>by unfold tE;omega
 have e7:bs kU l=bs tE p.nodes:=by rw [<-Iz,Ad l 0,<-dD.all hs hz]
 unfold nP dk;rw [xa,xa,xa];simp only [length_nil];have e8:=km e3 e4;generalize bs (fun x=>(c8 dh gq x).length) (p.fns.zip l)=v3 at *;generalize bs (fun s=>(g1 s).length) p.globals=v1 at *;generalize bs (fun a=>(a1 a).length) p.arrays=v2 at *;omega
theorem It {p:Src} {l:List T} (hs:dD p.nodes 0 l) (hz:aC l=p.nodes.length):∀ t∈l,kU t<=100 * dk p/\aO t<=dk p:=fun t ht=>by
 have e6:bs tE p.nodes<=100 * bs (fun n:Nd=>n.s.length+n.kids.length+1) p.nodes:=rW fun n _=>by unfold tE;omega
 have e7:bs kU l=bs tE p.nodes:=by rw [<-Iz,Ad l 0,<-dD.all hs hz]
 have e8:=oF (f:=kU) ht;have e9:=KN ht
 have YL:=uY (fun n:Nd=>n.s.length+n.kids.length+1) p.nodes fun n _=>by omega
 unfold dk;omega
theorem PD (l:List ah):l.length<=wS l:=uY _ l fun s _=>by omega
theorem PE {l:List ah} {s:ah} (h:s∈l):s.length+1<=wS l:=oF (f:=fun s:ah=>s.length+1) h
structure Small (p:Src) (n:Nat):Prop where
 globals:p.globals.length<=n/\∀ s∈p.globals,s.length<=n
 arrays:p.arrays.length<=n/\∀ a∈p.arrays,a.name.length<=n
 fns:p.fns.length<=n/\∀ f∈p.fns,f.name.length<=n/\f.params.length<=n/\∀ s∈f.params,s.length<=n
 nodes:p.nodes.length<=n/\∀ x∈p.nodes,x.s.length<=n/\x.kids.length<=n
theorem dN (p:Src):Small p (dk p):=by
 have a1:=PD p.globals
 have a2:=uY (fun a:Ar=>a.name.length+1) p.arrays fun a _=>by omega
 have a3:=uY (fun f:Fn=>f.name.length+wS f.params+1) p.fns fun a _=>by omega
 have a4:=uY (fun n:Nd=>n.s.length+n.kids.length+1) p.nodes fun a _=>by omega
 unfold dk;refine ⟨⟨by omega,fun s hs=>?_⟩,⟨by omega,fun a ha=>?_⟩,⟨by omega,fun f hf=>?_⟩,⟨by omega,fun n hn=>?_⟩⟩
 ·have:=PE hs;omega
 ·have:=oF (f:=fun a:Ar=>a.name.length+1) ha;omega
 ·have:=oF (f:=fun f:Fn=>f.name.length+wS f.params+1) hf;refine ⟨by omega,by have:=PD f.params;omega,fun s hs=>by have:=PE hs;omega⟩
 ·have:=oF (f:=fun n:Nd=>n.s.length+n.kids.length+1) hn;exact ⟨by omega,by omega⟩
structure AY (st:PS) (n:Nat):Prop where
 globals:st.globals.length<=n
 arrays:st.arrays.length<=n
 fns:st.fns.length<=n
 params:∀ x∈st.fns,x.2.length<=n
theorem Ou:∀ (f:Nat) (acc:List ah) (p:RS) (l:List ah) (q:RS),pM f acc p=some (l,q)->l.length<=acc.length+f
 | 0,_,_,_,_,h=>by cases h
 | f+1,acc,p,l,q,h=>by
  rw [pM] at h;split at h
  ·have:=Ou f _ _ l q h;rw [aZ,length_cons,length_nil] at this;omega
  ·cases h;omega
theorem AY.up {st:PS} {n:Nat} (h:AY st n):AY st (n+1):=by
 obtain ⟨a,b,c,d⟩:=h;exact ⟨by omega,by omega,by omega,fun x hx=>by have:=d x hx;omega⟩
theorem X2 {f n:Nat} {p q:RS} {st ey:PS} (hf:f<=n) (h:iW f p st=some (q,ey)) (hs:AY st n):AY ey (n+1):=by
 have key:=hs.up;obtain ⟨a,b,c,d⟩:=hs;unfold iW at h;split at h
 ·split at h
  ·split at h
   ·cases h;exact ⟨by simp;omega,by simp;omega,by simp;omega,fun x hx=>by have:=d x hx;omega⟩
   ·cases h;exact key
  ·cases h;exact ⟨by simp;omega,by simp;omega,by simp;omega,fun x hx=>by have:=d x hx;omega⟩
 ·split at h
  ·cases hm:pM f [] (want (bu p.next) [40]) with
   | none=>rw [hm] at h;cases h
   | some r =>
    obtain ⟨l,q1⟩:=r;rw [hm] at h;simp only at h;have hl:=Ou _ _ _ _ _ hm;split at h
    ·split at h
     ·cases h
     ·cases h;refine ⟨by simp;omega,by simp;omega,by simp;omega,fun x hx=>?_⟩
      rcases qp hx with hx | hx
      ·have:=d x hx;omega
      ·rw [mem_singleton] at hx;subst hx;simp at hl |-;omega
    ·cases h;exact key
  ·cases h;exact key
theorem Ow {f:Nat}:∀ (abg n:Nat) (p q:RS) (st ey:PS),f<=n->nY abg f p st=some (q,ey)->AY st n->AY ey (n+abg)
 | 0,n,p,q,st,ey,_,h,_=>by cases h
 | abg+1,n,p,q,st,ey,hf,h,hs=>by
  rw [nY] at h;split at h
  ·cases hw:iW f p st with
   | none=>rw [hw] at h;cases h
   | some r =>
    obtain ⟨q1,s1⟩:=r;rw [hw] at h;simp only at h;have:=Ow abg (n+1) q1 q s1 ey aq h (X2 hf hw hs);rw [show n+(abg+1)=n+1+abg by omega];exact this
  ·cases h;obtain ⟨a,b,c,d⟩:=hs;exact ⟨by omega,by omega,by omega,fun x hx=>by have:=d x hx;omega⟩
mutual
theorem Qm:∀ (t:T) (a:Nat),∀ n∈mH a t,n.kids.length<=aO t
 | .mk m l,a,n,h=>by
  rw [mH] at h;rw [aO]
  rcases ei h with rfl | h
  ·simp only [da];have:=bZ l;omega
  ·have:=Bz l (a+1) n h;omega
theorem Bz:∀ (l:List T) (a:Nat),∀ n∈eK a l,n.kids.length<=aC l
 | [],a,n,h=>by rw [eK] at h;cases h
 | t::r,a,n,h=>by
  rw [eK] at h;rw [aC]
  rcases qp h with h | h
  ·have:=Qm t a n h;omega
  ·have:=Bz r _ n h;omega
end
end Go.Im
namespace Go.Sp
open Go.Xp
structure F2 (p:Src) (ls:List (List S)):Prop where
 len:ls.length=p.fns.length
 at_:∀ (i:Nat) f l,p.fns[i]?=some f->ls[i]?=some l->0<=f.body/\S.df l=true/\wt (bO l)<=1000000000/\∃ t,sub p.nodes (fN p.nodes) f.body.toNat=some t/\er t=bO l
theorem Uw (a:E) (ho:a.ok=true):(a.bp).length+4<=wt a.tree:=(E.len a ho).1
theorem TB {l:List S} (ho:S.df l=true) (hw:wt (bO l)<=1000000000) :
  ∃ ts t q f,Go.Sp.jr (fK E.bp l)=some ts/\(fK E.bp l).length<=1000000000/\ts.length<=1000000000/\1+f<=1099511627776/\mS f (.block 1) ⟨ts,0,(fK E.bp l).length,0,0⟩=some (t,q)/\q.l=ts/\((q.code=0/\q.i=ts.length/\eW l 1=true)\/(q.code≠0/\eW l 1=false)):=by
 have hlen:=tK E.bp Uw ho;generalize hx:fK E.bp l=x at *;obtain ⟨ts,I,F⟩:=(Kj ho).all;rw [hx] at F;have h3:=F.len;have E0:On ⟨ts,0,x.length,0,0⟩ ts:=⟨rfl,aX _,rfl,F.kinds⟩;have cj:rs (x.length:Int) (nr ts) (.block 1) ts≠.error bb:=w7;obtain ⟨t,q,h4,h5⟩:=(js (nr ts)).block 1 ts _ E0 cj;have Wa:=Gf (e:=(x.length:Int)) (d:=1) (rest:=[]) ho I;rw [iy] at Wa
 change jI _ q t (block (x.length:Int) 1 ts) at h5
 refine ⟨ts,t,q,KF (nr ts),F.all,by omega,by omega,by unfold KF nr;omega,h4 _ (aH _),?_⟩
 cases hf:eW l 1 with
 | true =>
  obtain ⟨t',_,h6⟩:=Wa.1 hf;rw [h6] at h5;obtain ⟨_,h7,h8,_⟩:=h5;have h8:q.l=ts:=h8;refine ⟨h8,.inl ⟨h7.code,?_,rfl⟩⟩;have hr:=congrArg List.length h7.rest;have hle:=h7.le;rw [iM] at hr;rw [h8] at hr hle;simp only [length_nil] at hr;omega
 | false =>
  obtain ⟨pos,h6⟩:=Wa.2 hf;rw [h6] at h5;exact ⟨h5.2.2.2.1,.inr ⟨bN.err h5,rfl⟩⟩
end Go.Sp
namespace Go.Im
open Go.Xp Go.Sp
def Mf (p:Src) (x:ah):Bool:=match nQ x (x.length+1) 0 [] with
 | none=>false
 | some (ts,c,z)=>if c≠0 then false else match nY (ts.length+1) (40 * ts.length+100) ⟨ts,0,(x.length:Int),0,0⟩ .empty with
  | none=>false
  | some (q,st)=>if q.code≠0 then false else if aC st.trees > 800 then false else same p st
def fI (p:Src):Bool:=if p.nodes.length > 800 then false else match jE p.nodes p.fns 0 [] with
 | none=>false
 | some (l,e)=>if e≠p.nodes.length then false else if l.all fo=false then false else Mf p (nP dh gq p l)
theorem B0 {p:Src} {x:ah} {ts:List Tok} {c z:Int} {q:RS} {st:PS} (h:Reads x ts c z q st):Mf p x=if c≠0 then false else if q.code≠0 then false else if aC st.trees > 800 then false else same p st:=by
 unfold Mf;rw [h.lex];simp only;rw [h.read]
theorem ZK {p:Src} {l:List T} {ls:List (List S)} (h:gR p l) (hf:Forms l ls):fI p=ls.all fun b=>eW b 1:=by
 unfold fI;have h8:=h.few;rw [ab aq,h.EA];simp only;rw [ab (by simp),ab (by rw [h.k];decide)];obtain ⟨ts,c,z,q,st,hr⟩:=reads (nP dh gq p l);obtain ⟨I,F,h3⟩:=Mo h hf hr;rw [B0 hr,ab (by simpa using I)]
 cases hb:ls.all fun b=>eW b 1 with
 | false=>rw [ae (h3 hb)]
 | true =>
  obtain ⟨k1,k2,k3⟩:=F hb;rw [ab (by simpa using k1),ab aq,k3]
theorem vg {p:Src} (h:fI p=true):∃ l,gR p l:=by
 unfold fI at h
 by_cases h8:p.nodes.length > 800
 ·rw [ae h8] at h;cases h
 rw [ab h8] at h
 cases hb:jE p.nodes p.fns 0 [] with
 | none=>rw [hb] at h;cases h
 | some y =>
  obtain ⟨l,e⟩:=y;rw [hb] at h;simp only at h
  by_cases he:e=p.nodes.length
  ·subst he;rw [ab (by simp)] at h
   by_cases hk:l.all fo=false
   ·rw [ae hk] at h;cases h
   rw [ab hk] at h;obtain ⟨ts,c,z,q,st,hr⟩:=reads (nP dh gq p l);rw [B0 hr] at h;split at h
   ·cases h
   split at h
   ·cases h
   ·rename_i hc;split at h
    ·cases h
    ·exact ⟨l,Mg aq hb (hr.ok (by simpa using hc)).1 h⟩
  ·rw [ae he] at h;cases h
theorem ZJ {p:Src} (h:oX p=some false):fI p=false:=by
 cases hf:fI p with
 | false=>rfl
 | true =>
  obtain ⟨l,I⟩:=vg hf;rw [I.oX] at h;cases h
theorem dD.ix {nodes:List Nd}:∀ (l:List T) (a i:Nat) (t:T),dD nodes a l->l[i]?=some t->dV nodes (a+aC (l.take i)) t
 | [],a,i,t,_,h=>by simp at h
 | u::r,a,0,t,h,hi=>by
  cases hi;rw [dD] at h;exact h.1
 | u::r,a,i+1,t,h,hi=>by
  rw [dD] at h;have:=dD.ix r (a+aO u) i t h.2 (by simpa using hi);rw [take_succ_cons,aC,<-gW];exact this
mutual
theorem PW:∀ t:T,wt t<=kU t
 | .mk n l=>by have:=IA l;rw [wt,kU];omega
theorem IA:∀ l:List T,fp l<=gV l
 | []=>aH _
 | t::r=>by have:=PW t;have:=IA r;rw [fp,gV];omega
end
theorem MY {p:Src} {l:List T} {ls:List (List S)} (h:gR p l) (hf:Forms l ls) (hw:dk p<=1048576):F2 p ls:=by
 have hl:=gB.len h.fns;refine ⟨by rw [hf.len];omega,fun i f b I F=>?_⟩;have hi:=(bh F).1;have hlen:=hf.len
 have ht:l[i]?=some (l[i]'aq):=by simp [<-hlen,hi]
 obtain ⟨h3,h4⟩:=hf.at_ i _ b ht F;obtain ⟨h5,h6⟩:=gB.at_ h.fns i f _ I ht;have h7:=dD.ix l 0 i _ h.st ht;rw [fk] at h5 h7;have hm:=bm ht;have h8:=It h.st h.len _ hm;have h9:=PW (l[i]'aq);have ma:=dV.le _ _ h7;refine ⟨by omega,h3,by rw [<-h4,Tr];omega,_,?_,h4⟩;rw [h5,gA];exact (uX _).1 _ _ h7 (by unfold fN;omega)
theorem oI {α:Type} (f:α->Nat) (l:List α) (k:Nat):bs f (l.take k)<=bs f l:=by
 have:bs f l=bs f (l.take k)+bs f (l.drop k):=by rw [<-B6,take_append_drop]
 omega
def sN (w left:Nat):Int:=if w<=left then ((left - w:Nat):Int) else -1
theorem gi {w left:Nat} (h:w<=left):sN w left=((left - w:Nat):Int):=by unfold sN;rw [ae h]
theorem dB {w left:Nat} (h:left < w):sN w left = -1:=by unfold sN;rw [ab aq]
theorem oH {α:Type} (w:α->Nat) (l:List α):bs (fun x=>w x+1) l=l.length+bs w l:=by
 induction l with
 | nil=>rfl
 | cons x l ih=>rw [bs,ih,bs,length_cons];omega
theorem oG {α:Type} {w:α->Nat} {l:List α} {k:Nat} {x:α} (h:l[k]?=some x):bs w (l.take (k+1))=bs w (l.take k)+w x:=by
 have:l.take (k+1)=l.take k++[x]:=by rw [cq,h];rfl
 rw [this,B6,bs,bs];rfl
theorem qd {α β:Type} {f:α->β} {l:List α} {k:Nat} {x:α} {Z:β} (h:l[k]?=some x):((l.take k).map f++List.replicate (l.length - k) Z).set k (f x)=(l.take (k+1)).map f++List.replicate (l.length - (k+1)) Z:=by
 have hk:=(bh h).1
 have ht:l.take (k+1)=l.take k++[x]:=by rw [cq,h];rfl
 have hl:((l.take k).map f).length=k:=by rw [bS,fV];omega
 rw [show l.length - k=(l.length - (k+1))+1 by omega,List.replicate_succ,List.set_append_right _ _ aq,hl,vA,List.set_cons_zero,ht,o0];simp
theorem qc {α β:Type} {f:α->β} {l:List α} {k:Nat} {Z:β} (h:k<=l.length):((l.take k).map f++List.replicate (l.length - k) Z).length=l.length:=by
 rw [aZ,bS,fV,List.length_replicate];omega
theorem qb {α β:Type} {f:α->β} {l:List α} {Z:β}:(l.take l.length).map f++List.replicate (l.length - l.length) Z=l.map f:=by
 rw [cy,vA];simp
theorem Ey {p:Src} {l:List T} (h:gR p l):∀ a∈p.arrays,0<=a.size/\a.size<=2147483647:=fun a ha=>by
 have:=fE.1 h.arrays a ha;unfold ph at this;simp only [aE,Bool.not_eq_true',decide_eq_false_iff_not] at this;omega
end Go.Im
