/- Part 2 of proofs that are told in their last texts. -/
import Derived.Test.YtbfmholmeiegoaaGreatDoorZ1
open List (all_cons cons_append drop_left find?_eq_none flatMap_cons foldl_cons getElem?_take length_cons length_nil map_map mem_append mem_cons_self mem_singleton nil_append sum_cons tail_cons take_append_drop take_succ_cons take_zero zip_cons_cons)
set_option linter.unusedVariables false
set_option linter.unusedSimpArgs false
set_option maxRecDepth 100000
namespace Go.Xp
open Go.Sp (bs eP)
section
variable {e:Int} {d:Nat} {ts rest:List Tok} {Q:T->Prop} {b:Bool}
theorem S.head {s:S} (ho:s.ok=true) (ht:ts.map kf=s.tk):∃ t r,ts=t::r/\∀ rest,sign (t::rest) 0≠fp/\sign (t::rest) 0≠[125]:=by
 cases s with
 | set s a =>
  exact zcc
 | put s a b =>
  exact zcc
 | if1 c b =>
  exact zaq
 | if2 c b b2 =>
  exact zaq
 | while_ c b =>
  exact zaq
 | ret a =>
  exact zaq
 | var s a =>
  exact zaq
 | do_ a =>
  simp only [S.ok] at ho;obtain ⟨k0,r0,hh,hf⟩:=E.head a ho;rw [S.tk,hh] at ht;obtain ⟨t,r,rfl,I,_⟩:=map_cons ht;refine ⟨t,r,rfl,fun rest=>?_⟩
  rcases Ch (r:=rest) (by rw [I];exact hf) with h | h | h | h | h <;> (rw [h];decide)
def tC (l:List S):Prop:=∀ (e:Int) (d:Nat) (acc:List T) (ts rest:List Tok) (u:Tok),S.df l=true->ts.map kf=S.oD l->u.kind=3->u.s=[125] ->
 (S.fits l d=true->∃ ys,aU ys=S.trees l/\Eb e d acc (ts++u::rest) (.ok (acc++ys,rest)))/\(S.fits l d=false->∃ pos,Eb e d acc (ts++u::rest) (.error (9,pos)))
theorem Om:tC []:=by
 intro e d acc ts rest u _ ht hu gW
 have:ts=[]:=by simpa [S.oD] using ht
 subst this;refine ⟨fun _=>⟨[],rfl,1,fun f hf=>?_⟩,fun h=>by simp [S.fits] at h⟩;obtain ⟨f,rfl⟩:∃ g,f=g+1:=⟨f - 1,by omega⟩;rw [rs.body,ab (by exact vM hu gW),bO];rfl
theorem Mj {a:S} {l:List S} (Ca:tD a) (Cl:tC l):tC (a::l):=by
 intro e d acc ts rest u ho ht hu gW;simp only [S.df,aH] at ho;rw [S.oD] at ht;obtain ⟨A,B,rfl,h3,h4⟩:=dQ ht;obtain ⟨t,r,rfl,hh⟩:=S.head ho.1 h3
 have cn:sign (B++u::rest) 0≠fp:=by
  cases l with
  | nil =>
   have:B=[]:=by simpa [S.oD] using h4
   subst this;rw [nil_append,vM hu gW];decide
  | cons a' l' =>
   simp only [S.df,aH] at ho;rw [S.oD] at h4;obtain ⟨A',B',rfl,h5,h6⟩:=dQ h4;obtain ⟨t',r',rfl,hh'⟩:=S.head ho.2.1 h5;exact (hh' _).1
 have hx:=Ca e d (t::r) (B++u::rest) ho.1 h3 cn
 have he:t::r++B++u::rest=t::r++(B++u::rest):=by simp
 have hs:sign (t::r++(B++u::rest)) 0≠[125]:=(hh _).2;rw [he,S.fits]
 cases hfa:a.fit d with
 | false =>
  refine ⟨fun hb=>zgy,fun _=>?_⟩;obtain ⟨pos,f0,h0⟩:=hx.2 hfa;refine ⟨pos,f0+1,fun f hf=>?_⟩;obtain ⟨f,rfl⟩:∃ g,f=g+1:=⟨f - 1,by omega⟩;rw [rs.body,F hs,h0 f aq]
 | true =>
  obtain ⟨ta,k1,f0,h0⟩:=hx.1 hfa;have hl:=Cl e d (acc++[ta]) B rest u ho.2 h4 hu gW;refine ⟨fun hb=>?_,fun hb=>?_⟩
  ·obtain ⟨ys,k3,di,k4⟩:=hl.1 zf3;refine ⟨ta::ys,by rw [aU,k1,k3,S.trees],f0+di+1,fun f hf=>?_⟩;obtain ⟨f,rfl⟩:∃ g,f=g+1:=⟨f - 1,by omega⟩;rw [rs.body,F hs,h0 f aq];simp only;rw [k4 f aq,de];rfl
  ·obtain ⟨pos,di,k3⟩:=hl.2 zf3;refine ⟨pos,f0+di+1,fun f hf=>?_⟩;obtain ⟨f,rfl⟩:∃ g,f=g+1:=⟨f - 1,by omega⟩;rw [rs.body,F hs,h0 f aq];exact k3 f aq
theorem tC.blk {l:List S} (C:tC l) {A:List Tok} {u w:Tok} (ho:S.df l=true) (ht:A.map kf=S.oD l) (hu:u.kind=3) (gW:u.s=[123]) (hw:w.kind=3) (FB:w.s=[125]) :
  Sx e (.block d) (u::(A++w::rest)) rest (fun t=>er t=.mk ⟨14,0,0,[],[]⟩ (S.trees l)) (decide (d<=60)&&S.fits l (d+1)):=by
 have hb:=C e (d+1) [] A rest w ho ht hw FB
 by_cases hd:d<=60
 ·have:(decide (d<=60)&&S.fits l (d+1))=S.fits l (d+1):=by simp [hd]
  rw [this];refine ⟨fun h=>?_,fun h=>?_⟩
  ·obtain ⟨ys,k1,f0,h0⟩:=hb.1 h;refine ⟨one 14 u.at_ [] ys,by show er _=_;rw [eG,k1],f0+1,fun f hf=>?_⟩;obtain ⟨f,rfl⟩:∃ g,f=g+1:=⟨f - 1,by omega⟩;rw [rs,F aq,sX hu gW];simp only;rw [h0 f aq];rfl
  ·obtain ⟨pos,f0,h0⟩:=hb.2 h;refine ⟨pos,f0+1,fun f hf=>?_⟩;obtain ⟨f,rfl⟩:∃ g,f=g+1:=⟨f - 1,by omega⟩;rw [rs,F aq,sX hu gW];simp only;rw [h0 f aq]
 ·have:(decide (d<=60)&&S.fits l (d+1))=false:=by simp [hd]
  exact zdr
theorem zA {j:sN} {x:Rd T} {kg:List Tok} {j':sN} {x':Rd T} (h:Es e j ts x) (hs:∀ f,rs e f j ts=x->rs e (f+1) j' kg=x'):Es e j' kg x':=by
 exact zcg
theorem Ko {j j2:sN} {x x2:Rd T} {kg xZ:List Tok} {j':sN} {x':Rd T} (h:Es e j ts x) (M:Es e j2 xZ x2) (hs:∀ f,rs e f j ts=x->rs e f j2 xZ=x2->rs e (f+1) j' kg=x'):Es e j' kg x':=by
 exact zbK
theorem RH (c:E) {l:List S} (C:tC l):tD (.if1 c l):=by
 intro e d ts rest ho ht dJ;simp only [S.ok,aH] at ho;rw [S.tk] at ht;obtain ⟨v,r,rfl,I,M⟩:=map_cons ht;obtain ⟨u,r,rfl,h3,h4⟩:=map_cons M;obtain ⟨A,r,rfl,h5,h6⟩:=dQ h4;obtain ⟨w,r,rfl,h7,h8⟩:=map_cons h6;obtain ⟨x,r,rfl,h9,nb⟩:=map_cons h8;obtain ⟨B,r,rfl,qx,qe⟩:=dQ nb;obtain ⟨y,rfl,fv⟩:=jC qe;obtain ⟨I,dx⟩:=eY I;obtain ⟨h3,lV⟩:=eY h3;obtain ⟨h7,mn⟩:=eY h7;obtain ⟨h9,Fo⟩:=eY h9;obtain ⟨fv,Cj⟩:=eY fv
 have he:v::u::(A++w::x::(B++[y]))++rest=v::u::(A++w::(x::(B++y::rest))):=by simp
 have hi:=xz (e:=e) (d:=d+1) (rest:=x::(B++y::rest)) ho.1 h5 h3 lV h7 mn zfL;have hb:=C.blk (e:=e) (d:=d+1) (rest:=rest) ho.2 qx h9 Fo fv Cj;have hv:=vM (rest:=u::(A++w::(x::(B++y::rest)))) I dx;rw [he,S.fit]
 refine rE fun hd=>?_
 cases hfa:rO c (d+1) with
 | false =>
  exact zbr
 | true =>
  obtain ⟨tc,k1,k2⟩:=hi.1 hfa;rw [Bool.true_and];refine ⟨fun h=>?_,fun h=>?_⟩
  ·obtain ⟨tb,k3,k4⟩:=hb.1 h;refine ⟨one 9 v.at_ [] [tc,tb],by show er _=_;rw [eG,aU,aU,k1,k3,S.tree];rfl,zA k4 fun f k4=>?_⟩;refine zaQ ?_;rw [k4];simp only;rw [ab hv,F dJ];rfl
  ·obtain ⟨pos,k3⟩:=hb.2 h;exact zfv
theorem Ml (c:E) {l:List S} (C:tC l):tD (.while_ c l):=by
 intro e d ts rest ho ht dJ;simp only [S.ok,aH] at ho;rw [S.tk] at ht;obtain ⟨v,r,rfl,I,M⟩:=map_cons ht;obtain ⟨u,r,rfl,h3,h4⟩:=map_cons M;obtain ⟨A,r,rfl,h5,h6⟩:=dQ h4;obtain ⟨w,r,rfl,h7,h8⟩:=map_cons h6;obtain ⟨x,r,rfl,h9,nb⟩:=map_cons h8;obtain ⟨B,r,rfl,qx,qe⟩:=dQ nb;obtain ⟨y,rfl,fv⟩:=jC qe;obtain ⟨I,dx⟩:=eY I;obtain ⟨h3,lV⟩:=eY h3;obtain ⟨h7,mn⟩:=eY h7;obtain ⟨h9,Fo⟩:=eY h9;obtain ⟨fv,Cj⟩:=eY fv
 have he:v::u::(A++w::x::(B++[y]))++rest=v::u::(A++w::(x::(B++y::rest))):=by simp
 have hi:=xz (e:=e) (d:=d+1) (rest:=x::(B++y::rest)) ho.1 h5 h3 lV h7 mn zfL;have hb:=C.blk (e:=e) (d:=d+1) (rest:=rest) ho.2 qx h9 Fo fv Cj;have hv:=vM (rest:=u::(A++w::(x::(B++y::rest)))) I dx;rw [he,S.fit]
 refine rE fun hd=>?_
 cases hfa:rO c (d+1) with
 | false =>
  refine ⟨fun hb=>zgy,fun _=>?_⟩;obtain ⟨pos,k1⟩:=hi.2 hfa;refine ⟨pos,uy fun f=>?_⟩;rw [rs,F aq];simp only;rw [F zgz,ab (.inr hv),tail_cons,k1]
 | true =>
  obtain ⟨tc,k1,k2⟩:=hi.1 hfa;rw [Bool.true_and];refine ⟨fun h=>?_,fun h=>?_⟩
  ·obtain ⟨tb,k3,k4⟩:=hb.1 h;refine ⟨one 10 v.at_ [] [tc,tb],by show er _=_;rw [eG,aU,aU,k1,k3,S.tree];rfl,zA k4 fun f k4=>?_⟩;rw [rs,F aq];simp only;rw [F zgz,ab (.inr hv),tail_cons,k2];simp only;rw [k4];simp only;rw [F zgz];rfl
  ·obtain ⟨pos,k3⟩:=hb.2 h;refine ⟨pos,zA k3 fun f k3=>?_⟩;rw [rs,F aq];simp only;rw [F zgz,ab (.inr hv),tail_cons,k2];simp only;rw [k3]
theorem RI (c:E) {l l2:List S} (C:tC l) (C2:tC l2):tD (.if2 c l l2):=by
 intro e d ts rest ho ht dJ;simp only [S.ok,aH] at ho;rw [S.tk] at ht;obtain ⟨v,r,rfl,I,M⟩:=map_cons ht;obtain ⟨u,r,rfl,h3,h4⟩:=map_cons M;obtain ⟨A,r,rfl,h5,h6⟩:=dQ h4;obtain ⟨w,r,rfl,h7,h8⟩:=map_cons h6;obtain ⟨x,r,rfl,h9,nb⟩:=map_cons h8;obtain ⟨B,r,rfl,qx,qe⟩:=dQ nb;obtain ⟨y,r,rfl,fv,C6⟩:=map_cons qe;obtain ⟨z,r,rfl,Xl,h16⟩:=map_cons C6;obtain ⟨x2,r,rfl,Xm,h18⟩:=map_cons h16;obtain ⟨B2,r,rfl,h19,h20⟩:=dQ h18;obtain ⟨y2,rfl,Kz⟩:=jC h20;obtain ⟨I,dx⟩:=eY I;obtain ⟨h3,lV⟩:=eY h3;obtain ⟨h7,mn⟩:=eY h7;obtain ⟨h9,Fo⟩:=eY h9;obtain ⟨fv,Cj⟩:=eY fv;obtain ⟨Xl,aba⟩:=eY Xl;obtain ⟨Xm,abb⟩:=eY Xm;obtain ⟨Kz,abc⟩:=eY Kz
 have he:v::u::(A++w::x::(B++y::z::x2::(B2++[y2])))++rest=v::u::(A++w::(x::(B++y::(z::(x2::(B2++y2::rest)))))):=by simp
 have hi:=xz (e:=e) (d:=d+1) (rest:=x::(B++y::(z::(x2::(B2++y2::rest))))) ho.1 h5 h3 lV h7 mn zfL;have hb:=C.blk (e:=e) (d:=d+1) (rest:=z::(x2::(B2++y2::rest))) ho.2.1 qx h9 Fo fv Cj;have fJ:=C2.blk (e:=e) (d:=d+1) (rest:=rest) ho.2.2 h19 Xm abb Kz abc;have hv:=vM (rest:=u::(A++w::(x::(B++y::(z::(x2::(B2++y2::rest))))))) I dx;have hz:=vM (rest:=x2::(B2++y2::rest)) Xl aba;rw [he,S.fit]
 refine rE fun hd=>?_
 cases hfa:rO c (d+1) with
 | false =>
  exact zbr
 | true =>
  obtain ⟨tc,k1,k2⟩:=hi.1 hfa;rw [Bool.true_and]
  cases hfb:(decide (d+1<=60)&&S.fits l (d+2)) with
  | false =>
   refine ⟨fun hb=>zgy,fun _=>?_⟩;obtain ⟨pos,k3⟩:=hb.2 hfb;exact zfv
  | true =>
   obtain ⟨tb,k3,k4⟩:=hb.1 hfb;rw [Bool.true_and];refine ⟨fun h=>?_,fun h=>?_⟩
   ·obtain ⟨tb2,k5,k6⟩:=fJ.1 h;refine ⟨one 9 v.at_ [] [tc,tb,tb2],by show er _=_;rw [eG,aU,aU,aU,k1,k3,k5,S.tree];rfl,Ko k4 k6 fun f k4 k6=>?_⟩;refine zaQ ?_;rw [k4];simp only;rw [ab hv,ab hz,tail_cons,k6];rfl
   ·obtain ⟨pos,k5⟩:=fJ.2 h;refine ⟨pos,Ko k4 k5 fun f k4 k5=>?_⟩;refine zaQ ?_;rw [k4];simp only;rw [ab hv,ab hz,tail_cons,k5]
end
mutual
theorem coreS:∀ (s:S),tD s
 | .set s a=>RO s a
 | .put s a b=>RL s a b
 | .if1 c b=>RH c (AK b)
 | .if2 c b b2=>RI c (AK b) (AK b2)
 | .while_ c b=>Ml c (AK b)
 | .ret a=>RM a
 | .do_ a=>Vl a
 | .var s a=>RP s a
theorem AK:∀ (l:List S),tC l
 | []=>Om
 | a::l=>Mj (coreS a) (AK l)
end
def Mf (l:List S):List K:=kS [123]::(S.oD l++[kS [125]])
def bY (l:List S):T:=.mk ⟨14,0,0,[],[]⟩ (S.trees l)
def fA (l:List S) (d:Nat):Bool:=decide (d<=60)&&S.fits l (d+1)
theorem aaw (e:Int):∀ f,(∀ j ts,rs e f j ts=.error bf\/rs e (f+1) j ts=rs e f j ts)/\(∀ d acc ts,rs.body e f d acc ts=.error bf\/rs.body e (f+1) d acc ts=rs.body e f d acc ts):=by
 intro f
 induction f with
 | zero=>exact ⟨fun j ts=>.inl zgF,fun d acc ts=>.inl (by simp [rs.body])⟩
 | succ f ih =>
  obtain ⟨i1,i2⟩:=ih;refine ⟨fun j ts=>?_,fun d acc ts=>?_⟩
  ·cases j with
   | block d =>
    rw [rs,rs];split
    ·exact zbx
    ·cases aV e [123] ts with
     | error x=>exact zbx
     | ok r =>
      simp only
      rcases i2 (d+1) [] r with h | h
      ·left;rw [h]
      ·rw [h];exact zbx
   | stmt d =>
    rw [rs,rs];split
    ·exact zbx
    ·simp only;split
     ·exact zbx
     ·split
      ·cases inner e (d+1) [40] [41] ts.tail with
       | error x=>exact zbx
       | ok y =>
        obtain ⟨c,r⟩:=y;simp only
        rcases i1 (.block (d+1)) r with h | h
        ·left;rw [h]
        ·rw [h]
         cases rs e f (.block (d+1)) r with
         | error x=>exact zbx
         | ok y =>
          obtain ⟨b,r⟩:=y;simp only;split
          ·split
           ·rcases i1 (.block (d+1)) r.tail with h | h
            ·left;rw [h]
            ·rw [h];exact zbx
           ·exact zbx
          ·exact zbx
      ·exact zbx
  ·rw [rs.body,rs.body];split
   ·exact zbx
   ·rcases i1 (.stmt d) ts with h | h
    ·left;rw [h]
    ·rw [h]
     cases rs e f (.stmt d) ts with
     | error x=>exact zbx
     | ok y=>exact i2 _ _ _
theorem Wd {e:Int} {f f':Nat} {j:sN} {ts:List Tok} (h:rs e f j ts≠.error bf) (hf:f<=f'):rs e f' j ts=rs e f j ts:=by
 obtain ⟨k,rfl⟩:=Nat.exists_eq_add_of_le hf;clear hf
 induction k with
 | zero=>rfl
 | succ k ih =>
  rcases (aaw e (f+k)).1 j ts with I | I
  ·rw [ih] at I;exact absurd I h
  ·rw [<-gn,I,ih]
theorem GX {l:List S} {e:Int} {d:Nat} {ts rest:List Tok} (ho:S.df l=true) (ht:ts.map kf=Mf l) :
  (fA l d=true->∃ t,er t=bY l/\block e d (ts++rest)=.ok (t,rest))/\(fA l d=false->∃ pos,block e d (ts++rest)=.error (9,pos)):=by
 obtain ⟨u,r,rfl,I,M⟩:=map_cons ht;obtain ⟨A,r,rfl,h3,h4⟩:=dQ M;obtain ⟨w,rfl,h5⟩:=jC h4;obtain ⟨I,dx⟩:=eY I;obtain ⟨h5,Uc⟩:=eY h5;have hb:=(AK l).blk (e:=e) (d:=d) (rest:=rest) ho h3 I dx h5 Uc
 have he:u::(A++[w])++rest=u::(A++w::rest):=by simp
 rw [he]
 have key:∀ {x:Rd T},Es e (.block d) (u::(A++w::rest)) x->block e d (u::(A++w::rest))=x:=by
  rintro x ⟨f0,h0⟩;have cn:rs e (ot (u::(A++w::rest))) (.block d) (u::(A++w::rest))≠.error bf:=ye;have:=Wd cn (Nat.le_add_left _ f0);rw [h0 _ aq] at this;exact this.symm
 exact ⟨fun h=>by obtain ⟨t,k1,k2⟩:=hb.1 h;exact ⟨t,k1,key k2⟩,fun h=>by obtain ⟨pos,k1⟩:=hb.2 h;exact ⟨pos,key k1⟩⟩
open Go.Sp (dO cE cv own oz iT bE)
def Bd (n:Int):Int:=if n % 4294967296 > 2147483647 then n % 4294967296 - 4294967296 else n % 4294967296
def dk (n:Nat):ae:=if h:n < 10 then [UInt8.ofNat (48+n)] else dk (n / 10)++[UInt8.ofNat (48+n % 10)]
termination_by n
decreasing_by omega
theorem qQ (n:Nat):(dk n).length<=n+1:=by
 induction n using Nat.strongRecOn with
 | _ n ih =>
 unfold dk
 by_cases h:n < 10
 ·rw [dif_pos h];simp
 ·rw [dif_neg h,aM];have:=ih (n / 10) aq;simp;omega
def bZ:List ae->ae
 | []=>[]
 | x::r=>x++r.flatMap fun y=>44::32::y
theorem Du {l:List ae} (h:l≠[]) (x:ae):bZ (l++[x])=(bZ l++[44,32])++x:=by
 cases l with
 | nil=>exact absurd rfl h
 | cons a l=>simp [bZ,List.flatMap_append]
theorem yw (l:List ae) (k:Nat):(bZ (l.take k)).length<=(bZ l).length:=by
 cases l with
 | nil=>simp
 | cons a l =>
  cases k with
  | zero=>simp [bZ]
  | succ k =>
   simp only [take_succ_cons,bZ,aM]
   have:∀ (l:List ae) (k:Nat),((l.take k).flatMap fun y=>(44:UInt8)::32::y).length<=(l.flatMap fun y=>(44:UInt8)::32::y).length:=by
    intro l
    induction l with
    | nil=>intro k;simp
    | cons b l ih=>intro k;cases k with
     | zero=>simp
     | succ k=>simp only [take_succ_cons,flatMap_cons,aM];have:=ih k;omega
   have:=this l k;omega
def sE (lv k:Nat) (x:ae):ae:=if lv < k then (40::x)++[41] else x
mutual
def E.bB:E->ae
 | .num n=>dk n.toNat
 | .name s=>s
 | .at_ s a=>((s++[91])++a.bB)++[93]
 | .call s l=>((s++[40])++bZ (E.dz l))++[41]
 | .un s a=>(s++[32])++sE a.lv 9 a.bB
 | .bin s a b=>(((sE a.lv (eO s) a.bB++[32])++s)++[32])++sE b.lv (eO s+1) b.bB
def E.dz:List E->List ae
 | []=>[]
 | a::l=>a.bB::E.dz l
end
mutual
def E.full:E->ae
 | .num n=>dk n.toNat
 | .name s=>s
 | .at_ s a=>((s++[91])++a.full)++[93]
 | .call s l=>((s++[40])++bZ (E.uJ l))++[41]
 | .un s a=>((40::s)++a.full)++[41]
 | .bin s a b=>(((((40::a.full)++[32])++s)++[32])++b.full)++[41]
def E.uJ:List E->List ae
 | []=>[]
 | a::l=>a.full::E.uJ l
end
theorem E.TB (l:List E):E.dz l=l.map E.bB:=by
 induction l with
 | nil=>rfl
 | cons a l ih=>rw [E.dz,ih];rfl
theorem E.OY (l:List E):E.uJ l=l.map E.full:=by
 induction l with
 | nil=>rfl
 | cons a l ih=>rw [E.uJ,ih];rfl
def E.out (least:Bool) (a:E):ae:=if least then a.bB else a.full
mutual
def S.bB (x:E->ae):S->ae
 | .set s a=>((s++[32,61,32])++x a)++[59]
 | .put s a b=>((((s++[91])++x a)++[93,32,61,32])++x b)++[59]
 | .if1 c b=>(([105,102,32,40]++x c)++[41,32])++(S.dz x [123,32] b++[125])
 | .if2 c b b2=>(((([105,102,32,40]++x c)++[41,32])++(S.dz x [123,32] b++[125]))++[32,101,108,115,101,32])++(S.dz x [123,32] b2++[125])
 | .while_ c b=>(([119,104,105,108,101,32,40]++x c)++[41,32])++(S.dz x [123,32] b++[125])
 | .ret a=>([114,101,116,117,114,110,32]++x a)++[59]
 | .do_ a=>x a++[59]
 | .var s a=>((([118,97,114,32]++s)++[32,61,32])++x a)++[59]
def S.dz (x:E->ae):ae->List S->ae
 | acc,[]=>acc
 | acc,a::l=>S.dz x ((acc++a.bB x)++[32]) l
end
def fX (x:E->ae) (l:List S):ae:=S.dz x [123,32] l++[125]
theorem J4 (n:Nd) (l:List T):dO (.mk n l)=(cE l&&cv (.mk n l)):=by rw [dO]
theorem vY {l:List T} (h:cE l=true) {t:T} (ht:t∈l):dO t=true:=by
 induction l with
 | nil=>cases ht
 | cons a l ih =>
  rw [cE,aH] at h
  rcases dw ht with rfl | ht
  ·exact h.1
  ·exact ih h.2 ht
theorem nX (n:Nd) (l:List T):er (.mk n l)=.mk ⟨n.kind,0,n.n,n.s,[]⟩ (aU l):=by rw [er]
theorem jR {l:List T} {m i:Nat} (h:bE m i l=true):∀ (j:Nat) t,l[j]?=some t->(if i+j < m then oz t.n.kind else t.n.kind==14)=true:=by
 induction l generalizing i with
 | nil=>intro j t h;simp at h
 | cons a l ih =>
  rw [bE,aH] at h;intro j t hj
  cases j with
  | zero=>cases hj;exact h.1
  | succ j=>have:=ih h.2 j t zf4;rw [show i+(j+1)=i+1+j by omega];exact this
theorem Ha:∀ (l:List T),(∀ t∈l,∃ a:E,a.ok=true/\er t=a.tree)->∃ es:List E,E.df es=true/\aU l=E.trees es
 | [],_=>⟨[],rfl,rfl⟩
 | t::l,h=>by
  obtain ⟨a,I,M⟩:=h t (mem_cons_self);obtain ⟨es,h3,h4⟩:=Ha l (fun t ht=>h t (cU _ ht));exact ⟨a::es,by simp [E.df,I,h3],by rw [aU,E.trees,M,h4]⟩
theorem toE:∀ (sz:Nat) (t:T),sizeOf t<=sz->dO t=true->oz t.n.kind=true->∃ a:E,a.ok=true/\er t=a.tree:=by
 intro sz
 induction sz with
 | zero=>intro t h;cases t;simp at h
 | succ sz ih =>
  intro t cX ha hk;obtain ⟨n,l⟩:=t;rw [J4,aH] at ha;obtain ⟨ha,ho⟩:=ha
  have pA:∀ t∈l,oz t.n.kind=true->∃ a:E,a.ok=true/\er t=a.tree:=fun t ht hk=>by
   have:=List.sizeOf_lt_of_mem ht;exact ih t zgv (vY ha ht) hk
  obtain ⟨k,at_,v,s,ks⟩:=n
  have hk:(1:Int)<=k/\k<=6:=by
   simp only [oz,T.n,aH] at hk;exact ⟨og hk.1,og hk.2⟩
  simp only [cv,own,T.n,T.kids] at ho
  obtain rfl | rfl | rfl | rfl | rfl | rfl:k=1\/k=2\/k=3\/k=4\/k=5\/k=6:=by omega
  ·simp at ho;obtain ⟨I,M,h3,h4,h5⟩:=ho;subst h4 h5;exact ⟨.num v,by simp only [E.ok,aH];exact ⟨M,h3⟩,by rw [nX,E.tree];rfl⟩
  ·simp at ho;obtain ⟨I,M,h3,h4⟩:=ho;subst M h4;exact ⟨.name s,by simp [E.ok,h3],by rw [nX,E.tree];rfl⟩
  ·simp at ho;obtain ⟨I,M,h3,h4,h5⟩:=ho;subst M
   match l,h4 with
   | [t],_ =>
    have zc:=jR h5 0 t rfl;obtain ⟨a,h6,h7⟩:=pA t zfL (by simpa using zc);exact ⟨.at_ s a,by simp [E.ok,h3,h6],by rw [nX,E.tree,aU,h7];rfl⟩
  ·simp at ho;obtain ⟨I,M,h3,h5⟩:=ho;subst M
   obtain ⟨es,h6,h7⟩:=Ha l fun t ht=>pA t ht (by
    obtain ⟨j,hj⟩:=List.mem_iff_getElem?.1 ht;have aj:=(bq hj).1;have:=jR h5 j t hj
    rw [ab aq] at this;exact this)
   exact ⟨.call s es,by simp [E.ok,h3,h6],by rw [nX,E.tree,h7]⟩
  ·simp at ho;obtain ⟨I,M,h3,h4,h5⟩:=ho;subst M
   match l,h4 with
   | [t],_ =>
    have zc:=jR h5 0 t rfl;obtain ⟨a,h6,h7⟩:=pA t zfL (by simpa using zc);exact ⟨.un s a,by simp only [E.ok,h6,Bool.and_true,Bool.or_eq_true,beq_iff_eq];exact h3,by rw [nX,E.tree,aU,h7];rfl⟩
  ·simp at ho;obtain ⟨I,M,h3,h4,h5⟩:=ho;subst M
   match l,h4 with
   | [t,u],_ =>
    have zc:=jR h5 0 t rfl;have hku:=jR h5 1 u rfl;obtain ⟨a,h6,h7⟩:=pA t zfL (by simpa using zc);obtain ⟨b,h8,h9⟩:=pA u zfL (by simpa using hku);exact ⟨.bin s a b,by simp [E.ok,h3,h6,h8],by rw [nX,E.tree,aU,aU,h7,h9];rfl⟩
theorem IM:∀ (l:List T),(∀ t∈l,∃ a:S,a.ok=true/\er t=a.tree)->∃ es:List S,S.df es=true/\aU l=S.trees es
 | [],_=>⟨[],rfl,rfl⟩
 | t::l,h=>by
  obtain ⟨a,I,M⟩:=h t (mem_cons_self);obtain ⟨es,h3,h4⟩:=IM l (fun t ht=>h t (cU _ ht));exact ⟨a::es,by simp [S.df,I,h3],by rw [aU,S.trees,M,h4]⟩
theorem toS:∀ (sz:Nat) (t:T),sizeOf t<=sz->dO t=true->(iT t.n.kind=true->∃ a:S,a.ok=true/\er t=a.tree)/\(t.n.kind=14->∃ l:List S,S.df l=true/\er t=bY l):=by
 intro sz
 induction sz with
 | zero=>intro t h;cases t;simp at h
 | succ sz ih =>
  intro t cX ha;obtain ⟨n,l⟩:=t;rw [J4,aH] at ha;obtain ⟨ha,ho⟩:=ha
  have hex:∀ t∈l,oz t.n.kind=true->∃ a:E,a.ok=true/\er t=a.tree:=fun t ht hk=>toE _ t (aD _) (vY ha ht) hk
  have dY:∀ t∈l,t.n.kind=14->∃ l:List S,S.df l=true/\er t=bY l:=fun t ht hk=>by
   have:=List.sizeOf_lt_of_mem ht;exact (ih t zgv (vY ha ht)).2 hk
  have bW:∀ t∈l,iT t.n.kind=true->∃ a:S,a.ok=true/\er t=a.tree:=fun t ht hk=>by
   have:=List.sizeOf_lt_of_mem ht;exact (ih t zgv (vY ha ht)).1 hk
  obtain ⟨k,at_,v,s,ks⟩:=n;simp only [cv,own,T.n,T.kids] at ho;refine ⟨fun hk=>?_,fun hk=>?_⟩
  ·have hk:(7:Int)<=k/\k<=13:=by
    simp only [iT,T.n,aH] at hk;exact ⟨og hk.1,og hk.2⟩
   obtain rfl | rfl | rfl | rfl | rfl | rfl | rfl:k=7\/k=8\/k=9\/k=10\/k=11\/k=12\/k=13:=by omega
   ·simp at ho;obtain ⟨I,M,h3,h4,h5⟩:=ho;subst M
    match l,h4 with
    | [t],_ =>
     obtain ⟨a,h6,h7⟩:=hex t zfL zfW;exact ⟨.set s a,by simp [S.ok,h3,h6],by rw [nX,S.tree,aU,h7];rfl⟩
   ·simp at ho;obtain ⟨I,M,h3,h4,h5⟩:=ho;subst M
    match l,h4 with
    | [t,u],_ =>
     obtain ⟨a,h6,h7⟩:=hex t zfL zfW;obtain ⟨b,h8,h9⟩:=hex u zfL zgh;exact ⟨.put s a b,by simp [S.ok,h3,h6,h8],by rw [nX,S.tree,aU,aU,h7,h9];rfl⟩
   ·simp at ho;obtain ⟨I,M,h3,h4,h5⟩:=ho;subst M h3
    rcases h4 with h4 | h4
    ·match l,h4 with
     | [t,u],_ =>
      obtain ⟨a,h6,h7⟩:=hex t zfL zfW;obtain ⟨b,h8,h9⟩:=dY u zfL zgh;exact ⟨.if1 a b,by simp [S.ok,h6,h8],by rw [nX,S.tree,aU,aU,h7,h9];rfl⟩
    ·match l,h4 with
     | [t,u,w],_ =>
      obtain ⟨a,h6,h7⟩:=hex t zfL zfW;obtain ⟨b,h8,h9⟩:=dY u zfL zgh;obtain ⟨c,nb,qx⟩:=dY w zfL (by simpa using jR h5 2 w rfl);exact ⟨.if2 a b c,by simp [S.ok,h6,h8,nb],by rw [nX,S.tree,aU,aU,aU,h7,h9,qx];rfl⟩
   ·simp at ho;obtain ⟨I,M,h3,h4,h5⟩:=ho;subst M h3
    match l,h4 with
    | [t,u],_ =>
     obtain ⟨a,h6,h7⟩:=hex t zfL zfW;obtain ⟨b,h8,h9⟩:=dY u zfL zgh;exact ⟨.while_ a b,by simp [S.ok,h6,h8],by rw [nX,S.tree,aU,aU,h7,h9];rfl⟩
   ·simp at ho;obtain ⟨I,M,h3,h4,h5⟩:=ho;subst M h3
    match l,h4 with
    | [t],_ =>
     obtain ⟨a,h6,h7⟩:=hex t zfL zfW;exact ⟨.ret a,by simp [S.ok,h6],by rw [nX,S.tree,aU,h7];rfl⟩
   ·simp at ho;obtain ⟨I,M,h3,h4,h5⟩:=ho;subst M h3
    match l,h4 with
    | [t],_ =>
     obtain ⟨a,h6,h7⟩:=hex t zfL zfW;exact ⟨.do_ a,by simp [S.ok,h6],by rw [nX,S.tree,aU,h7];rfl⟩
   ·simp at ho;obtain ⟨I,M,h3,h4,h5⟩:=ho;subst M
    match l,h4 with
    | [t],_ =>
     obtain ⟨a,h6,h7⟩:=hex t zfL zfW;exact ⟨.var s a,by simp [S.ok,h3,h6],by rw [nX,S.tree,aU,h7];rfl⟩
  ·simp only [T.n] at hk;subst hk;simp at ho;obtain ⟨I,M,h3,h4⟩:=ho;subst M h4
   obtain ⟨es,h5,h6⟩:=IM l fun t ht=>bW t ht (h3 t ht)
   exact ⟨es,h5,by rw [nX,bY,h6]⟩
theorem toB {t:T} (h:dO t=true) (hk:t.n.kind=14):∃ l:List S,S.df l=true/\er t=bY l:=(toS _ t (aD _) h).2 hk
mutual
def wt:T->Nat
 | .mk n l=>30+n.s.length+fL l
def fL:List T->Nat
 | []=>0
 | t::l=>wt t+fL l
end
mutual
theorem U5:∀ t:T,wt (er t)=wt t
 | .mk n l=>by rw [er,wt,wt,LX l]
theorem LX:∀ l:List T,fL (aU l)=fL l
 | []=>rfl
 | t::l=>by rw [aU,fL,fL,U5 t,LX l]
end
theorem Kf:∀ (k n:Nat),n < 10 ^ (k+1)->(dk n).length<=k+1:=by
 intro k
 induction k with
 | zero=>intro n h;unfold dk;rw [dif_pos aq];simp
 | succ k ih =>
  intro n h;unfold dk;split
  ·simp
  ·rw [aM];have:=ih (n / 10) (by rw [Nat.pow_succ] at h;omega);simp;omega
theorem uR (lv k:Nat) (x:ae):(sE lv k x).length<=x.length+2:=by unfold sE;split <;> simp
mutual
theorem E.len:∀ a:E,a.ok=true->a.bB.length+4<=wt a.tree/\a.full.length+4<=wt a.tree
 | .num n,h=>by
  simp only [E.ok,aH] at h;have I:=og h.1;have M:=og h.2;have:=Kf 9 n.toNat aq;rw [E.bB,E.full,E.tree,wt];simp only [length_nil,fL];omega
 | .name s,h=>by rw [E.bB,E.full,E.tree,wt];simp only [fL];omega
 | .at_ s a,h=>by
  simp only [E.ok,aH] at h;have:=E.len a h.2;exact ze1
 | .call s l,h=>by
  simp only [E.ok,aH] at h;have:=E.lens l h.2;rw [E.bB,E.full,E.tree,wt];exact zar
 | .un s a,h=>by
  simp only [E.ok,aH] at h;have:=E.len a h.2;have:=uR a.lv 9 a.bB;exact ze1
 | .bin s a b,h=>by
  simp only [E.ok,aH] at h;have:=E.len a h.1.2;have:=E.len b h.2;have:=uR a.lv (eO s) a.bB;have:=uR b.lv (eO s+1) b.bB;exact ze1
theorem E.lens:∀ l:List E,E.df l=true->(bZ (E.dz l)).length<=fL (E.trees l)/\(bZ (E.uJ l)).length<=fL (E.trees l)
 | [],_=>⟨aO _,aO _⟩
 | a::l,h=>by
  simp only [E.df,aH] at h;have I:=E.len a h.1;have M:=E.lens l h.2;rw [E.dz,E.uJ,E.trees,fL]
  have key:∀ (x:ae) (l:List ae),(bZ (x::l)).length<=x.length+2+(bZ l).length:=by
   intro x l
   cases l with
   | nil=>simp [bZ]
   | cons y l=>simp [bZ];omega
  have:=key a.bB (E.dz l);have:=key a.full (E.uJ l);omega
end
mutual
theorem S.len (x:E->ae) (hx:∀ a:E,a.ok=true->(x a).length+4<=wt a.tree):∀ s:S,s.ok=true->(s.bB x).length+4<=wt s.tree
 | .set s a,h=>by
  simp only [S.ok,aH] at h;have:=hx a h.2;exact zdi
 | .put s a b,h=>by
  simp only [S.ok,aH] at h;have:=hx a h.2.1;have:=hx b h.2.2;exact zdi
 | .if1 c b,h=>by
  exact zbU
 | .if2 c b b2,h=>by
  simp only [S.ok,aH] at h;have:=hx c h.1;have:=S.lens x hx b h.2.1 [123,32];have:=S.lens x hx b2 h.2.2 [123,32];rw [S.bB,S.tree,wt];simp only [fL,wt,aM,length_cons,length_nil] at *;omega
 | .while_ c b,h=>by
  exact zbU
 | .ret a,h=>by
  simp only [S.ok] at h;have:=hx a h;exact zdi
 | .do_ a,h=>by
  simp only [S.ok] at h;have:=hx a h;exact zdi
 | .var s a,h=>by
  simp only [S.ok,aH] at h;have:=hx a h.2;exact zdi
theorem S.lens (x:E->ae) (hx:∀ a:E,a.ok=true->(x a).length+4<=wt a.tree):∀ l:List S,S.df l=true->∀ acc:ae,(S.dz x acc l).length<=acc.length+fL (S.trees l)
 | [],_,acc=>by rw [S.dz];omega
 | a::l,h,acc=>by
  simp only [S.df,aH] at h;have I:=S.len x hx a h.1;have M:=S.lens x hx l h.2 ((acc++a.bB x)++[32]);rw [S.dz,S.trees,fL];simp only [aM,length_cons,length_nil] at M;omega
end
theorem uQ (x:E->ae) (hx:∀ a:E,a.ok=true->(x a).length+4<=wt a.tree) {l:List S} (h:S.df l=true):(fX x l).length<=wt (bY l):=by
 have:=S.lens x hx l h [123,32];unfold fX bY;rw [wt];simp only [aM,length_cons,length_nil] at *;omega
end Go.Xp
namespace Go.Im
open Go.Xp Go.Sp
def sB (g:Nat->Option (T × Nat)):List Int->Nat->List T->Option (List T × Nat)
 | [],next,acc=>some (acc,next)
 | k::r,next,acc=>if k=(next:Int) then match g next with
  | none=>none
  | some (t,e)=>sB g r e (acc++[t])
  else none
def qI (nodes:List Nd):Nat->Nat->Option (T × Nat)
 | 0,_=>none
 | f+1,a=>match nodes[a]? with
  | none=>none
  | some n=>match sB (qI nodes f) n.kids (a+1) [] with
   | none=>none
   | some (l,e)=>if n.at_ < 0 then none else some (.mk n l,e)
def tr (nodes:List Nd) (a:Nat):Option (T × Nat):=qI nodes (nodes.length+1) a
theorem I4 {nodes:List Nd} {g:Nat->Option (T × Nat)} (hg:∀ a t e,g a=some (t,e)->a < e/\e<=nodes.length/\e=a+aJ t/\(nodes.take e).drop a=gL a t) :
  ∀ (ks:List Int) (next:Nat) (acc l:List T) (e:Nat),next<=nodes.length->sB g ks next acc=some (l,e)->∃ l',l=acc++l'/\e=next+az l'/\e<=nodes.length/\ks=bh next l'/\(nodes.take e).drop next=bU next l'
 | [],next,acc,l,e,hn,h=>by
  rw [sB] at h;cases h;exact ⟨[],by simp,by simp [az],hn,rfl,by rw [bU];exact gC (by rw [jy,du];omega)⟩
 | k::r,next,acc,l,e,hn,h=>by
  rw [sB] at h;split at h
  ·rename_i hk
   cases hq:g next with
   | none=>rw [hq] at h;cases h
   | some x =>
    obtain ⟨t,e1⟩:=x;rw [hq] at h;simp only at h;obtain ⟨a1,a2,a3,a4⟩:=hg _ _ _ hq;obtain ⟨l',b1,b2,b3,b4,b5⟩:=I4 hg r e1 (acc++[t]) l e a2 h;refine ⟨t::l',by rw [b1];simp,by rw [az];omega,b3,by rw [bh,<-a3,<-b4,hk],?_⟩;rw [bU,<-a3,<-a4,<-b5]
    have he:e1<=e:=by omega
    have I:(nodes.take e).take e1=nodes.take e1:=by rw [List.take_take,Nat.min_eq_left he]
    have M:(nodes.take e).drop next=((nodes.take e).take e1).drop next++(nodes.take e).drop e1:=by
     have h3:nodes.take e=(nodes.take e).take e1++(nodes.take e).drop e1:=(take_append_drop _ _).symm
     have h4:((nodes.take e).take e1).length=e1:=by rw [du,du];omega
     rw [h3,List.drop_append_of_le_length (by rw [h4];omega)];rw [<-h3]
    rw [M,I]
  ·cases h
theorem CO {nodes:List Nd}:∀ (f a:Nat) (t:T) (e:Nat),qI nodes f a=some (t,e)->a < e/\e<=nodes.length/\e=a+aJ t/\(nodes.take e).drop a=gL a t
 | 0,a,t,e,h=>by cases h
 | f+1,a,t,e,h=>by
  rw [qI] at h
  cases hn:nodes[a]? with
  | none=>exact zdY
  | some n =>
   rw [hn] at h;simp only at h;have aj:=(bq hn).1
   cases hk:sB (qI nodes f) n.kids (a+1) [] with
   | none=>rw [hk] at h;cases h
   | some x =>
    obtain ⟨l,e1⟩:=x;rw [hk] at h;simp only at h;split at h
    ·cases h
    ·cases h;obtain ⟨l',b1,b2,b3,b4,b5⟩:=I4 (CO f) n.kids (a+1) [] l e aj hk
     have:l'=l:=by rw [b1];rfl
     subst this;refine ⟨by omega,b3,by rw [aJ];omega,?_⟩;rw [gL,<-b4,<-b5]
     have I:(nodes.take e)[a]?=some n:=by rw [getElem?_take,ab aq];exact hn
     obtain ⟨M,h3⟩:=bq I;rw [lT M,h3]
def kM (nodes:List Nd):List Fn->Nat->List T->Option (List T × Nat)
 | [],next,acc=>some (acc,next)
 | f::r,next,acc=>match tr nodes next with
  | none=>none
  | some (t,e)=>if f.body=(next:Int) then kM nodes r e (acc++[t]) else none
def dH (k:Int) (n:Nat):Bool :=
 if k=1\/k=2 then ((n:Int)==0)
 else if k=4\/k=14 then true
 else if k=3\/k=5\/k=7\/k=11\/k=12\/k=13 then ((n:Int)==1)
 else if k=6\/k=8\/k=10 then ((n:Int)==2)
 else if k=9 then ((n:Int)==2) || ((n:Int)==3)
 else false
mutual
def iU:T->Bool
 | .mk n l=>dH n.kind l.length&&w5 l
def w5:List T->Bool
 | []=>true
 | t::r=>iU t&&w5 r
end
theorem Aa (t:T):iU t=(dH t.n.kind t.kids.length&&w5 t.kids):=by cases t;rw [iU];rfl
theorem vB (l:List T):w5 l=l.all iU:=by
 induction l with
 | nil=>rfl
 | cons t l ih=>rw [w5,ih];rfl
mutual
def eC (nodes:List Nd):Nat->T->Prop
 | a,.mk n l=>nodes[a]?=some n/\n.kids=bh (a+1) l/\dX nodes (a+1) l
def dX (nodes:List Nd):Nat->List T->Prop
 | _,[]=>True
 | a,t::r=>eC nodes a t/\dX nodes (a+aJ t) r
end
mutual
def zr:T->Prop
 | .mk n l=>0<=n.at_/\nW l
def nW:List T->Prop
 | []=>True
 | t::r=>zr t/\nW r
end
theorem gT (t:T):1<=aJ t:=by rw [eB];omega
mutual
theorem eC.le {nodes:List Nd}:∀ (t:T) (a:Nat),eC nodes a t->a+aJ t<=nodes.length
 | .mk n l,a,h=>by
  rw [eC] at h;have I:=(bq h.1).1;have:=dX.le l (a+1) h.2.2 I;rw [aJ];omega
theorem dX.le {nodes:List Nd}:∀ (l:List T) (a:Nat),dX nodes a l->a<=nodes.length->a+az l<=nodes.length
 | [],a,h,ha=>by rw [az];exact ha
 | t::r,a,h,ha=>by
  rw [dX] at h;have I:=eC.le t a h.1;have:=dX.le r _ h.2 I;rw [az];omega
end
theorem Ki {nodes:List Nd}:∀ (f:Nat),(∀ (a d:Nat) (e:Int),qk nodes f a d=some e->0<=e->∃ t,eC nodes a t/\e=((a+aJ t:Nat):Int)) /\
  (∀ (ks:List Int) (next d:Nat) (e:Int),pb nodes f ks (next:Int) d=some e->0<=e->∃ l,dX nodes next l/\ks=bh next l/\e=((next+az l:Nat):Int)):=by
 intro f
 induction f with
 | zero =>
  refine ⟨fun a d e h _=>by simp [qk] at h,fun ks next d e h _=>?_⟩
  cases ks with
  | nil=>rw [pb] at h;cases h;exact ⟨[],trivial,rfl,by simp [az]⟩
  | cons k r=>simp [pb] at h
 | succ f ih =>
  refine ⟨fun a d e h he=>?_,fun ks next d e h he=>?_⟩
  ·rw [qk] at h;split at h
   ·cases h;omega
   ·cases hn:nodes[a]? with
    | none=>exact zdY
    | some n =>
     rw [hn] at h;simp only at h;rw [show ((a:Int)+1)=((a+1:Nat):Int) by omega] at h;obtain ⟨l,I,M,h3⟩:=ih.2 _ _ _ _ h he;exact ⟨.mk n l,by rw [eC];exact ⟨hn,M,I⟩,by rw [h3,aJ];omega⟩
  ·cases ks with
   | nil=>rw [pb] at h;cases h;exact ⟨[],trivial,rfl,by simp [az]⟩
   | cons k r =>
    rw [pb] at h;split at h
    ·rename_i hk;subst hk;rw [lk] at h
     cases hq:qk nodes f next (d+1) with
     | none=>rw [hq] at h;cases h
     | some e1 =>
      rw [hq] at h;simp only at h;split at h
      ·cases h;omega
      ·rename_i h0;obtain ⟨t,I,M⟩:=ih.1 _ _ _ hq aq;subst M;obtain ⟨l,h3,h4,h5⟩:=ih.2 _ _ _ _ h he;refine ⟨t::l,by rw [dX];exact ⟨I,h3⟩,by rw [bh,<-h4],by rw [h5,az];omega⟩
    ·cases h;omega
theorem xV {nodes:List Nd}:∀ (f:Nat),(∀ (t:T) (a:Nat),eC nodes a t->2 * aJ t<=f->sub nodes f a=some t) /\
  (∀ (l:List T) (a:Nat) (acc:List T),dX nodes a l->2 * az l+1<=f->qn nodes f (bh a l) acc=some (acc++l)):=by
 intro f
 induction f with
 | zero =>
  exact ⟨fun t a _ h=>by have:=gT t;omega,fun l a acc _ h=>by omega⟩
 | succ f ih =>
  refine ⟨fun t a hs h=>?_,fun l a acc hs h=>?_⟩
  ·obtain ⟨n,l⟩:=t;rw [eC] at hs;rw [aJ] at h;rw [sub,hs.1];simp only;rw [hs.2.1,ih.2 l (a+1) [] hs.2.2 aq];rfl
  ·cases l with
   | nil=>rw [bh,qn];simp
   | cons t l =>
    rw [dX] at hs;rw [az] at h;have:=gT t;rw [bh,qn,F aq,lk,ih.1 t a hs.1 aq];simp only;rw [ih.2 l _ _ hs.2 aq];simp
theorem Zi {nodes:List Nd}:∀ (f:Nat) (t:T) (a:Nat),eC nodes a t->zr t->aJ t<=f->qI nodes f a=some (t,a+aJ t):=by
 intro f
 induction f with
 | zero=>intro t a _ _ h;exact zcN
 | succ f ih =>
  intro t a hs ha h;obtain ⟨n,l⟩:=t
  have key:∀ (l:List T) (a:Nat) (acc:List T),dX nodes a l->nW l->az l<=f->sB (qI nodes f) (bh a l) a acc=some (acc++l,a+az l):=by
   intro l
   induction l with
   | nil=>intro a acc _ _ _;rw [bh,sB,az];simp
   | cons t l ih2 =>
    intro a acc hs ha h;rw [dX] at hs;rw [nW] at ha;rw [az] at h;rw [bh,sB,ab rfl,ih t a hs.1 ha.1 aq];simp only;rw [ih2 _ _ hs.2 ha.2 aq,az];simp [gn]
  rw [eC] at hs;rw [zr] at ha;rw [aJ] at h;rw [qI,hs.1];simp only;rw [hs.2.1,key l (a+1) [] hs.2.2 ha.2 aq];simp only;rw [F aq,aJ];simp only [nil_append,Option.some.injEq,Prod.mk.injEq,true_and];omega
theorem Za {nodes:List Nd}:∀ (f:Nat) (t:T) (a e:Nat),qI nodes f a=some (t,e)->eC nodes a t/\e=a+aJ t/\zr t:=by
 intro f
 induction f with
 | zero=>intro t a e h;cases h
 | succ f ih =>
  intro t a e h
  have key:∀ (ks:List Int) (next:Nat) (acc l:List T) (e:Nat),sB (qI nodes f) ks next acc=some (l,e)->∃ l',l=acc++l'/\dX nodes next l'/\ks=bh next l'/\e=next+az l'/\nW l':=by
   intro ks
   induction ks with
   | nil=>intro next acc l e h;rw [sB] at h;cases h;exact ⟨[],by simp,trivial,rfl,by simp [az],trivial⟩
   | cons k r ih2 =>
    intro next acc l e h
    rw [sB] at h;split at h
    ·rename_i hk
     cases hq:qI nodes f next with
     | none=>rw [hq] at h;cases h
     | some x =>
      obtain ⟨t,e1⟩:=x;rw [hq] at h;simp only at h;obtain ⟨a1,a2,a3⟩:=ih _ _ _ hq;subst a2;obtain ⟨l',b1,b2,b3,b4,b5⟩:=ih2 _ _ _ _ h;exact ⟨t::l',by rw [b1];simp,by rw [dX];exact ⟨a1,b2⟩,by rw [bh,hk,b3],by rw [b4,az];omega,by rw [nW];exact ⟨a3,b5⟩⟩
    ·cases h
  rw [qI] at h
  cases hn:nodes[a]? with
  | none=>exact zdY
  | some n =>
   rw [hn] at h;simp only at h
   cases hk:sB (qI nodes f) n.kids (a+1) [] with
   | none=>rw [hk] at h;cases h
   | some x =>
    obtain ⟨l,e1⟩:=x;rw [hk] at h;simp only at h;split at h
    ·cases h
    ·rename_i h0;cases h;obtain ⟨l',b1,b2,b3,b4,b5⟩:=key _ _ _ _ _ hk
     have:l'=l:=by rw [b1];rfl
     subst this;exact ⟨by rw [eC];exact ⟨hn,b3,b2⟩,by rw [b4,aJ];omega,by rw [zr];exact ⟨by omega,b5⟩⟩
theorem Vr {nodes:List Nd} (hl:nodes.length<=800):∀ (f:Nat),(∀ (t:T) (a d:Nat),eC nodes a t->d<=a->2 * aJ t<=f->qk nodes f a d=some ((a+aJ t:Nat):Int)) /\
  (∀ (l:List T) (a d:Nat),dX nodes a l->d < a->2 * az l+1<=f->pb nodes f (bh a l) (a:Int) d=some ((a+az l:Nat):Int)):=by
 intro f
 induction f with
 | zero =>
  exact ⟨fun t a d _ _ h=>by have:=gT t;omega,fun l a d _ _ h=>by omega⟩
 | succ f ih =>
  refine ⟨fun t a d hs hd h=>?_,fun l a d hs hd h=>?_⟩
  ·obtain ⟨n,l⟩:=t;rw [eC] at hs;rw [aJ] at h |-;have aj:=(bq hs.1).1;rw [qk,F aq,hs.1];simp only;rw [show ((a:Int)+1)=((a+1:Nat):Int) by omega,hs.2.1,ih.2 l (a+1) d hs.2.2 aq aq]
   congr 1;omega
  ·cases l with
   | nil=>rw [bh,pb,az];simp
   | cons t l =>
    rw [dX] at hs;rw [az] at h |-;have:=gT t;rw [bh,pb,ab rfl,lk,ih.1 t a (d+1) hs.1 aq aq];simp only;rw [F aq,ih.2 l _ d hs.2 aq aq]
    congr 1;omega
theorem Oy {nodes:List Nd}:∀ (f:Nat),(∀ (a d:Nat),2 * (nodes.length - a)+1<=f->∃ e,qk nodes f a d=some e/\(0<=e->(a:Int) < e/\a < nodes.length)) /\
  (∀ (ks:List Int) (next d:Nat),2 * (nodes.length - next)+2<=f->∃ e,pb nodes f ks (next:Int) d=some e/\(0<=e->(next:Int)<=e)):=by
 intro f
 induction f with
 | zero=>exact ⟨fun a d h=>by omega,fun ks next d h=>by omega⟩
 | succ f ih =>
  refine ⟨fun a d h=>?_,fun ks next d h=>?_⟩
  ·rw [qk];split
   ·exact zfj
   ·rename_i hc
    cases hn:nodes[a]? with
    | none=>rw [List.getElem?_eq_none_iff] at hn;omega
    | some n =>
     simp only;rw [show ((a:Int)+1)=((a+1:Nat):Int) by omega];obtain ⟨e,I,M⟩:=ih.2 n.kids (a+1) d aq;exact ⟨e,I,fun h=>⟨by have:=M h;omega,by omega⟩⟩
  ·cases ks with
   | nil=>rw [pb];exact ⟨_,rfl,fun _=>Int.le_refl _⟩
   | cons k r =>
    rw [pb];split
    ·rename_i hk;subst hk;rw [lk]
     obtain ⟨e,I,M⟩:=ih.1 next (d+1) aq
     rw [I];simp only;split
     ·exact zfj
     ·rename_i h0;have h3:=M aq;obtain ⟨m,rfl⟩:∃ m:Nat,e=(m:Int):=⟨e.toNat,by omega⟩;obtain ⟨e',h4,h5⟩:=ih.2 r m d aq;exact ⟨e',h4,fun h=>by have:=h5 h;omega⟩
    ·exact zfj
def gD (Q:Fn->T->Prop):List Fn->Nat->List T->Prop
 | [],_,[]=>True
 | f::r,a,t::l=>f.body=(a:Int)/\Q f t/\gD Q r (a+aJ t) l
 | _,_,_=>False
theorem gD.len {Q:Fn->T->Prop}:∀ {fns:List Fn} {a:Nat} {l:List T},gD Q fns a l->fns.length=l.length
 | [],_,[],_=>rfl
 | f::r,a,t::l,h=>by rw [gD] at h;rw [length_cons,length_cons,gD.len h.2.2]
 | [],_,t::l,h=>by cases h
 | f::r,_,[],h=>by cases h
theorem gD.mono {Q R:Fn->T->Prop}:∀ {fns:List Fn} {a:Nat} {l:List T},gD Q fns a l->(∀ f t,f∈fns->t∈l->Q f t->R f t)->gD R fns a l
 | [],_,[],_,_=>trivial
 | f::r,a,t::l,h,hq=>by
  rw [gD] at h |-;exact ⟨h.1,hq _ _ mem_cons_self mem_cons_self h.2.1,gD.mono h.2.2 fun f t hf ht=>hq f t (cU _ hf) (cU _ ht)⟩
 | [],_,t::l,h,_=>by cases h
 | f::r,_,[],h,_=>by cases h
theorem gD.at_ {Q:Fn->T->Prop}:∀ {fns:List Fn} {a:Nat} {l:List T},gD Q fns a l->∀ (i:Nat) f t,fns[i]?=some f->l[i]?=some t->f.body=((a+az (l.take i):Nat):Int)/\Q f t
 | [],_,[],_,i,f,t,I,M=>by simp at I
 | f::r,a,t::l,h,i,f',t',I,M=>by
  rw [gD] at h
  cases i with
  | zero=>cases I;cases M;rw [take_zero,az];exact ⟨h.1,h.2.1⟩
  | succ i =>
   obtain ⟨k1,k2⟩:=gD.at_ h.2.2 i f' t' zfU zf6;exact ⟨by rw [k1,take_succ_cons,az];omega,k2⟩
 | [],_,t::l,h,_,_,_,_,_=>by cases h
 | f::r,_,[],h,_,_,_,_,_=>by cases h
structure Rq (f:Fn) (t:T):Prop where
 name:bs f.name=true
 params:da f.params=true
 kind:t.n.kind=14
 all:dO t=true
theorem Bu {nodes:List Nd}:∀ (fns:List Fn) (next:Nat) (e:Int),iK nodes fns (next:Int)=some (some e)->∃ l,dX nodes next l/\gD Rq fns next l/\e=((next+az l:Nat):Int)
 | [],next,e,h=>by rw [iK] at h;cases h;exact ⟨[],trivial,trivial,by simp [az]⟩
 | f::r,next,e,h=>by
  rw [iK,lk] at h
  cases hn:qk nodes (fN nodes) next 0 with
  | none=>exact zdY
  | some e1 =>
   rw [hn] at h;simp only at h;split at h
   ·cases h
   ·rename_i hc;split at h
    ·cases h
    ·rename_i hp;obtain ⟨t,I,M⟩:=(Ki _).1 _ _ _ hn aq;have hle:=eC.le t _ I;rw [(xV _).1 t next I zgf] at h;simp only at h;split at h
     ·cases h
     ·rename_i hk;subst M;obtain ⟨l,k1,k2,k3⟩:=Bu r _ e h;refine ⟨t::l,by rw [dX];exact ⟨I,k1⟩,?_,by rw [k3,az];omega⟩;rw [gD];refine ⟨by omega,⟨?_,?_,?_,?_⟩,k2⟩
      ·cases hq:bs f.name with
       | true=>rfl
       | false=>exact absurd (.inr (.inl hq)) hc
      ·simpa using hp
      ·exact Decidable.byContradiction fun hq=>hk (.inl hq)
      ·cases hq:dO t with
       | true=>rfl
       | false=>exact absurd (.inr hq) hk
theorem Br {nodes:List Nd} (hl:nodes.length<=800):∀ (fns:List Fn) (next:Nat) (l:List T),dX nodes next l->gD Rq fns next l->iK nodes fns (next:Int)=some (some ((next+az l:Nat):Int))
 | [],next,[],_,_=>by rw [iK,az];rfl
 | f::r,next,t::l,h,hf=>by
  rw [dX] at h;rw [gD] at hf;have hle:=eC.le t _ h.1;rw [iK,lk,(Vr hl _).1 t next 0 h.1 (aO _) zgf];simp only;rw [F (by rw [hf.2.1.name];rintro (h | h | h);exact h hf.1;cases h;omega),F (by rw [hf.2.1.params];decide),(xV _).1 t next h.1 zgf];simp only;rw [F (by rw [hf.2.1.all];rintro (h | h);exact h hf.2.1.kind;cases h),Br hl r _ l h.2 hf.2.2,az]
  congr 2;omega
 | [],_,t::l,_,h=>by cases h
 | f::r,_,[],_,h=>by cases h
theorem y7 {nodes:List Nd}:∀ (fns:List Fn) (next:Nat),∃ r,iK nodes fns (next:Int)=some r
 | [],next=>⟨_,by rw [iK]⟩
 | f::r,next=>by
  obtain ⟨e,I,M⟩:=(Oy (nodes:=nodes) (fN nodes)).1 next 0 zgf
  rw [iK,lk,I];simp only;split
  ·exact zea
  ·rename_i hc;split
   ·exact zea
   ·obtain ⟨t,k1,k2⟩:=(Ki _).1 _ _ _ I aq;have hle:=eC.le t _ k1;rw [(xV _).1 t next k1 zgf];simp only;split
    ·exact zea
    ·rw [k2];exact y7 r _
theorem Ns (p:Src):∃ b,p8 p=some b:=by
 unfold p8;split
 ·exact zea
 ·split
  ·exact zea
  ·obtain ⟨r,h⟩:=y7 (nodes:=p.nodes) p.fns 0;rw [show ((0:Nat):Int)=0 from rfl] at h;rw [h]
   cases r <;> exact ⟨_,rfl⟩
structure gV (p:Src) (l:List T):Prop where
 globals:da p.globals=true
 arrays:p.arrays.all o7=true
 st:dX p.nodes 0 l
 fns:gD Rq p.fns 0 l
 len:az l=p.nodes.length
 few:p.nodes.length<=800
theorem Wp {p:Src} (h:p8 p=some true):∃ l,gV p l:=by
 unfold p8 at h;split at h
 ·cases h
 ·rename_i I;split at h
  ·cases h
  ·rename_i M;rw [show (0:Int)=((0:Nat):Int) from rfl] at h
   cases hf:iK p.nodes p.fns ((0:Nat):Int) with
   | none=>rw [hf] at h;cases h
   | some r =>
    rw [hf] at h
    cases r with
    | none=>cases h
    | some e =>
     obtain ⟨l,k1,k2,k3⟩:=Bu _ _ _ hf;simp only [Option.some.injEq,aH,beq_iff_eq,decide_eq_true_eq] at h;exact ⟨l,by simpa using I,by simpa using M,k1,k2,by omega,by omega⟩
theorem gV.p8 {p:Src} {l:List T} (h:gV p l):p8 p=some true:=by
 unfold Go.Sp.p8;rw [F (by rw [h.globals];decide),F (by rw [h.arrays];decide),show (0:Int)=((0:Nat):Int) from rfl,Br h.few _ _ _ h.st h.fns];simp only [Option.some.injEq,aH,beq_iff_eq,decide_eq_true_eq];have:=h.len;have:=h.few;omega
theorem D3 {nodes:List Nd}:∀ (fns:List Fn) (next:Nat) (acc l:List T) (e:Nat),kM nodes fns next acc=some (l,e)->∃ l',l=acc++l'/\dX nodes next l'/\gD (fun _ _=>True) fns next l'/\e=next+az l'/\nW l'
 | [],next,acc,l,e,h=>by rw [kM] at h;cases h;exact ⟨[],by simp,trivial,trivial,by simp [az],trivial⟩
 | f::r,next,acc,l,e,h=>by
  rw [kM] at h
  cases hq:tr nodes next with
  | none=>rw [hq] at h;cases h
  | some x =>
   obtain ⟨t,e1⟩:=x;rw [hq] at h;simp only at h;split at h
   ·rename_i hb;obtain ⟨a1,a2,a3⟩:=Za _ _ _ _ hq;subst a2;obtain ⟨l',b1,b2,b3,b4,b5⟩:=D3 r _ _ _ _ h;exact ⟨t::l',by rw [b1];simp,by rw [dX];exact ⟨a1,b2⟩,by rw [gD];exact ⟨hb,trivial,b3⟩,by rw [b4,az];omega,by rw [nW];exact ⟨a3,b5⟩⟩
   ·cases h
theorem J9 {nodes:List Nd} {Q:Fn->T->Prop}:∀ (fns:List Fn) (next:Nat) (acc l:List T),dX nodes next l->gD Q fns next l->nW l->kM nodes fns next acc=some (acc++l,next+az l)
 | [],next,acc,[],_,_,_=>by rw [kM,az];simp
 | f::r,next,acc,t::l,h,hf,ha=>by
  rw [dX] at h;rw [gD] at hf;rw [nW] at ha;have hle:=eC.le t _ h.1;rw [kM,tr,Zi _ t next h.1 ha.1 aq];simp only;rw [ab hf.1,J9 r _ _ l h.2 hf.2.2 ha.2,az];simp [gn]
 | [],_,_,t::l,_,h,_=>by cases h
 | f::r,_,_,[],_,h,_=>by cases h
mutual
theorem eC.fl {nodes:List Nd}:∀ (t:T) (a:Nat),eC nodes a t->(nodes.take (a+aJ t)).drop a=gL a t
 | .mk n l,a,h=>by
  have hle:=eC.le _ _ h;rw [eC] at h;rw [aJ] at hle;have I:=dX.fl l (a+1) h.2.2 (by have:=(bq h.1).1;omega);rw [gL,<-h.2.1,<-I,aJ,show a+(az l+1)=a+1+az l by omega]
  have M:(nodes.take (a+1+az l))[a]?=some n:=by rw [getElem?_take,ab aq];exact h.1
  obtain ⟨h3,h4⟩:=bq M;rw [lT h3,h4]
theorem dX.fl {nodes:List Nd}:∀ (l:List T) (a:Nat),dX nodes a l->a<=nodes.length->(nodes.take (a+az l)).drop a=bU a l
 | [],a,h,ha=>by
  rw [bU];exact gC (by rw [az,jy,du];omega)
 | t::r,a,h,ha=>by
  rw [dX] at h;have hle:=eC.le _ _ h.1;have I:=eC.fl t a h.1;have M:=dX.fl r (a+aJ t) h.2 hle;have Ck:=dX.le r _ h.2 hle;rw [bU,<-I,<-M,az,show a+(aJ t+az r)=a+aJ t+az r by omega]
  have h3:nodes.take (a+aJ t)=(nodes.take (a+aJ t+az r)).take (a+aJ t):=by rw [List.take_take,Nat.min_eq_left aq]
  rw [h3];generalize hm:nodes.take (a+aJ t+az r)=m
  have eU:m.length=a+aJ t+az r:=by rw [<-hm,du];omega
  rw [<-List.drop_append_of_le_length zf1,take_append_drop]
end
theorem dX.all {nodes:List Nd} {l:List T} (h:dX nodes 0 l) (hl:az l=nodes.length):nodes=bU 0 l:=by
 have:=dX.fl l 0 h (aO _);rw [cL,hl,bH,List.drop_zero] at this;exact this
def pY (n:Int):ae:=if n < 0 then 45::dk n.natAbs else dk n.toNat
def ub (s:ae):Int:=match levels.findIdx? (fun l=>l.contains s) with | some i=>(i:Int) | none => -1
def v8 (b:Bool) (x:ae):ae:=if b=true then (40::x)++[41] else x
def nk (t:T) (least:Int):Bool:=(t.n.kind==6)&&decide (ub t.n.s < least)
def vP (n:Nd) (l:List T) (x:List ae):ae :=
 if n.kind=1 then pY n.n
 else if n.kind=3 then ((n.s++[91])++x.getD 0 [])++[93]
 else if n.kind=4 then ((n.s++[40])++bZ x)++[41]
 else if n.kind=5 then (n.s++[32])++(match l with | a::_=>v8 (a.n.kind==6) (x.getD 0 []) | []=>[])
 else if n.kind=6 then (match l with
  | a::b::_=>(((v8 (nk a (ub n.s)) (x.getD 0 [])++[32])++n.s)++[32])++v8 (nk b (ub n.s+1)) (x.getD 1 [])
  | _=>[])
 else n.s
mutual
def dC:T->ae
 | .mk n l=>vP n l (gY l)
def gY:List T->List ae
 | []=>[]
 | t::r=>dC t::gY r
end
theorem QS (t:T):dC t=vP t.n t.kids (gY t.kids):=by cases t;rw [dC];rfl
theorem ER (l:List T):gY l=l.map dC:=by
 induction l with
 | nil=>rfl
 | cons t l ih=>rw [gY,ih];rfl
mutual
def lP:T->Nat
 | .mk n l=>n.s.length+60+iC l
def iC:List T->Nat
 | []=>0
 | t::r=>lP t+iC r
end
theorem qK (t:T):lP t=t.n.s.length+60+iC t.kids:=by cases t;rw [lP];rfl
theorem vT {l:List T} {t:T} (h:t∈l):lP t<=iC l:=by
 induction l with
 | nil=>cases h
 | cons a l ih =>
  rw [iC]
  rcases dw h with rfl | h
  ·omega
  ·have:=ih h;omega
theorem SN (l:List T):l.length * 60<=iC l:=by
 induction l with
 | nil=>simp
 | cons t l ih=>rw [iC,qK,length_cons];omega
theorem Fc {n:Nat} (h:n < 100000000000000000000):(dk n).length<=20:=Kf 19 n zfP
theorem z8 {n:Int} (h : -9223372036854775808<=n/\n<=9223372036854775807):(pY n).length<=21:=by
 unfold pY;split
 ·have:=Fc (n:=n.natAbs) aq;simp only [length_cons];omega
 ·have:=Fc (n:=n.toNat) aq;omega
theorem AJ (b:Bool) (x:ae):(v8 b x).length<=x.length+2:=by
 unfold v8;split <;> simp
theorem He:∀ (r:List ae),(r.flatMap fun y=>44::32::y).length=(r.map fun y=>y.length+2).sum
 | []=>rfl
 | z::r=>by
  have:=He r;simp only [flatMap_cons,aM,List.map_cons,sum_cons,length_cons] at this |-;omega
theorem Cw:∀ (x:List ae),(bZ x).length<=(x.map fun y=>y.length+2).sum
 | []=>by simp [bZ]
 | y::r=>by
  have h:=He r;rw [List.map_cons,sum_cons,bZ,aM,h];omega
mutual
def si:T->Prop
 | .mk n l=>(-9223372036854775808<=n.n/\n.n<=9223372036854775807)/\sj l
def sj:List T->Prop
 | []=>True
 | t::r=>si t/\sj r
end
theorem tf (t:T):si t↔(-9223372036854775808<=t.n.n/\t.n.n<=9223372036854775807)/\sj t.kids:=by cases t;rw [si];exact Iff.rfl
theorem lq {l:List T} {t:T} (h:sj l) (ht:t∈l):si t:=by
 induction l with
 | nil=>cases ht
 | cons a l ih =>
  rw [sj] at h
  rcases dw ht with rfl | ht
  ·exact h.1
  ·exact ih h.2 ht
theorem xY:∀ (N:Nat) (t:T),aJ t<=N->si t->(dC t).length+4<=lP t:=by
 intro N
 induction N with
 | zero=>intro t h;rw [eB] at h;omega
 | succ N ih =>
  intro t hN hn;rw [eB] at hN;rw [tf] at hn
  have hk:∀ a∈t.kids,(dC a).length+4<=lP a:=fun a ha=>by
   refine ih a ?_ (lq hn.2 ha)
   have:∀ (l:List T),a∈l->aJ a<=az l:=by
    intro l
    induction l with
    | nil=>intro h;cases h
    | cons b l ih2 =>
     intro h;rw [az]
     rcases dw h with rfl | h
     ·omega
     ·have:=ih2 h;omega
   have:=this _ ha;omega
  have acE:((gY t.kids).map fun y=>y.length+2).sum<=iC t.kids:=by
   have:∀ (l:List T),(∀ a∈l,(dC a).length+4<=lP a)->((gY l).map fun y=>y.length+2).sum<=iC l:=by
    intro l
    induction l with
    | nil=>intro _;simp [gY]
    | cons a l ih2 =>
     intro h;have I:=h a (mem_cons_self)
     have M:=ih2 fun b hb=>h b (cU _ hb)
     rw [gY,iC,List.map_cons,sum_cons];omega
   exact this _ hk
  have h0:((gY t.kids).getD 0 []).length<=iC t.kids:=by
   cases hl:t.kids with
   | nil=>simp [gY]
   | cons a r =>
    have:=hk a (by rw [hl];exact mem_cons_self);rw [gY,iC];simp;omega
  have h01:∀ a b r,t.kids=a::b::r->((gY t.kids).getD 0 []).length+((gY t.kids).getD 1 []).length+8<=iC t.kids:=fun a b r hl=>by
   have I:=hk a (by rw [hl];exact mem_cons_self);have M:=hk b (by rw [hl];exact cU _ mem_cons_self);rw [hl,gY,gY,iC,iC];simp;omega
  rw [QS,qK];unfold vP;split
  ·have:=z8 hn.1;omega
  ·split
   ·exact zar
   ·split
    ·have:=Cw (gY t.kids);exact zar
    ·split
     ·cases hl:t.kids with
      | nil=>simp <;> omega
      | cons a r =>
       simp only [aM,length_cons,length_nil];have:=AJ (a.n.kind==6) ((gY (a::r)).getD 0 []);rw [hl] at h0;omega
     ·split
      ·match hl:t.kids with
       | []=>simp <;> omega
       | [a]=>simp <;> omega
       | a::b::r =>
        have I:=h01 a b r hl;rw [hl] at I;have M:=AJ (nk a (ub t.n.s)) ((gY (a::b::r)).getD 0 []);have h3:=AJ (nk b (ub t.n.s+1)) ((gY (a::b::r)).getD 1 []);exact zar
      ·omega
def zk (own:ae) (n:Nd) (k:Nat) (x b:List ae):ae :=
 if n.kind=13 then ((([118,97,114,32]++n.s)++[32,61,32])++x.getD 0 [])++[59]
 else if n.kind=7 then ((n.s++[32,61,32])++x.getD 0 [])++[59]
 else if n.kind=8 then ((((n.s++[91])++x.getD 0 [])++[93,32,61,32])++x.getD 1 [])++[59]
 else if n.kind=9 then (if k=3 then ((([105,102,32,40]++x.getD 0 [])++[41,32])++b.getD 1 [])++([32,101,108,115,101,32]++b.getD 2 []) else (([105,102,32,40]++x.getD 0 [])++[41,32])++b.getD 1 [])
 else if n.kind=10 then (([119,104,105,108,101,32,40]++x.getD 0 [])++[41,32])++b.getD 1 []
 else if n.kind=11 then ([114,101,116,117,114,110,32]++x.getD 0 [])++[59]
 else if n.kind=12 then x.getD 0 []++[59]
 else own
section
variable (tx:T->ae) (inl:List ae->Nat->ae)
mutual
def lM:Nat->T->ae
 | d,.mk n l=>zk (tx (.mk n l)) n l.length (l.map tx) (rN d l)
def rN:Nat->List T->List ae
 | _,[]=>[]
 | d,t::r=>oQ d t::rN d r
def oQ:Nat->T->ae
 | d,.mk n l=>inl (zj (d+1) l) d
def zj:Nat->List T->List ae
 | _,[]=>[]
 | d,t::r=>lM d t::zj d r
end
end
theorem QL (tx:T->ae) (inl:List ae->Nat->ae) (d:Nat) (t:T):lM tx inl d t=zk (tx t) t.n t.kids.length (t.kids.map tx) (rN tx inl d t.kids):=by cases t;rw [lM];rfl
theorem N7 (tx:T->ae) (inl:List ae->Nat->ae) (d:Nat) (t:T):oQ tx inl d t=inl (zj tx inl (d+1) t.kids) d:=by cases t;rw [oQ];rfl
theorem J8 (tx:T->ae) (inl:List ae->Nat->ae) (d:Nat) (l:List T):rN tx inl d l=l.map (oQ tx inl d):=by
 induction l with
 | nil=>rfl
 | cons t l ih=>rw [rN,ih];rfl
theorem LH (tx:T->ae) (inl:List ae->Nat->ae) (d:Nat) (l:List T):zj tx inl d l=l.map (lM tx inl d):=by
 induction l with
 | nil=>rfl
 | cons t l ih=>rw [zj,ih];rfl
def um (acc:ae) (l:List ae):ae:=l.foldl (fun acc s=>acc++(s++[32])) acc
def gQ (l:List ae) (d:Nat):ae:=um [123,32] l++[125]
def l8:List ae->Nat
 | []=>0
 | s::l=>s.length+1+l8 l
theorem vg (l:List ae):∀ acc,(um acc l).length=acc.length+l8 l:=by
 induction l with
 | nil=>intro acc;simp [um,l8]
 | cons s l ih =>
  intro acc;have:=ih (acc++(s++[32]));simp only [um,foldl_cons,l8,aM,length_cons,length_nil] at this |-;omega
theorem IX (a b:List ae):l8 (a++b)=l8 a+l8 b:=by
 induction a with
 | nil=>simp [l8]
 | cons s a ih=>simp only [cons_append,l8,ih];omega
theorem QO (l:List ae) (k:Nat):l8 (l.take k)<=l8 l:=by
 have:l8 l=l8 (l.take k)+l8 (l.drop k):=by rw [<-IX,take_append_drop]
 omega
theorem Od (acc:ae) (l:List ae) (s:ae):um acc (l++[s])=um acc l++(s++[32]):=by simp [um]
theorem Ws {l:List ae} {s:ae} (h:s∈l):s.length<=l8 l:=by
 induction l with
 | nil=>cases h
 | cons a l ih =>
  rw [l8]
  rcases dw h with rfl | h
  ·omega
  ·have:=ih h;omega
theorem Sn {l:List ae} {d:Nat} {s:ae} (h:s∈l):s.length<=(gQ l d).length:=by
 have I:=Ws h;have M:=vg l [123,32];unfold gQ;rw [aM,M];omega
def g1 (s:ae):ae:=([105,110,116,32]++s)++[59,10]
def a1 (a:Ar):ae:=((([105,110,116,32]++a.name)++[91])++pY a.size)++[93,59,10]
def di (tx:T->ae) (inl:List ae->Nat->ae) (x:Fn × T):ae:=((((([102,117,110,99,32]++x.1.name)++[40])++bZ x.1.params)++[41,32])++oQ tx inl 0 x.2)++[10]
def dU {α:Type} (f:α->ae):ae->List α->ae
 | acc,[]=>acc
 | acc,x::l=>dU f (acc++f x) l
theorem zu {α:Type} (f:α->ae) (l:List α) (x:α):∀ acc,dU f acc (l++[x])=dU f acc l++f x:=by
 induction l with
 | nil=>intro acc;rfl
 | cons y l ih=>intro acc;simp only [cons_append,dU];exact ih _
theorem RC {α:Type} (f:α->ae) (l k:List α):∀ acc,dU f acc (l++k)=dU f (dU f acc l) k:=by
 induction l with
 | nil=>intro acc;rfl
 | cons y l ih=>intro acc;simp only [cons_append,dU];exact ih _
theorem D5 {α:Type} (f:α->ae) (l:List α):∀ acc,acc.length<=(dU f acc l).length:=by
 induction l with
 | nil=>intro acc;exact aD _
 | cons y l ih=>intro acc;have:=ih (acc++f y);rw [dU];rw [aM] at this;omega
theorem zw {α:Type} (f:α->ae) (l:List α) (k:Nat) (acc:ae):(dU f acc (l.take k)).length<=(dU f acc l).length:=by
 have:dU f acc l=dU f (dU f acc (l.take k)) (l.drop k):=by rw [<-RC,take_append_drop]
 rw [this];exact D5 f _ _
def oK (tx:T->ae) (inl:List ae->Nat->ae) (p:Src) (trees:List T):ae:=dU (di tx inl) (dU a1 (dU g1 [] p.globals) p.arrays) (p.fns.zip trees)
end Go.Im
namespace Go.Im
def gx {α:Type} (p:α->α->Bool):List α->List α->Bool
 | [],[]=>true
 | a::r,b::s=>p a b&&gx p r s
 | _,_=>false
theorem AN {α:Type} {p:α->α->Bool}:∀ {a b:List α},gx p a b=true->a.length=b.length
 | [],[],_=>rfl
 | a::r,b::s,h=>by rw [gx,aH] at h;rw [length_cons,length_cons,AN h.2]
 | [],b::s,h=>by cases h
 | a::r,[],h=>by cases h
theorem tQ {α:Type} {p:α->α->Bool} {a b:List α} (h:a.length≠b.length):gx p a b=false:=by
 cases hc:gx p a b with
 | false=>rfl
 | true=>exact absurd (AN hc) h
theorem G4 {α:Type} {p:α->α->Bool}:∀ {a b:List α} {k:Nat} {x y:α},a[k]?=some x->b[k]?=some y->gx p a b=true->p x y=true
 | a::r,b::s,0,x,y,I,M,h=>by cases I;cases M;rw [gx,aH] at h;exact h.1
 | a::r,b::s,k+1,x,y,I,M,h=>by rw [gx,aH] at h;exact G4 zfU zf6 h.2
 | [],_,k,x,y,I,M,h=>by simp at I
 | a::r,[],k,x,y,I,M,h=>by simp at M
theorem tR {α:Type} {p:α->α->Bool} {a b:List α} {k:Nat} {x y:α} (I:a[k]?=some x) (M:b[k]?=some y) (h:p x y=false):gx p a b=false:=by
 cases hc:gx p a b with
 | false=>rfl
 | true=>have:=G4 I M hc;rw [h] at this;cases this
theorem Kj {α:Type} {p:α->α->Bool}:∀ {a b:List α},a.length=b.length->(∀ (k:Nat) x y,a[k]?=some x->b[k]?=some y->p x y=true)->gx p a b=true
 | [],[],_,_=>rfl
 | a::r,b::s,hl,h=>by
  rw [gx,h 0 a b rfl rfl,Kj zfR fun k x y I M=>h (k+1) x y zfU zf6];rfl
 | [],b::s,hl,h=>by simp at hl
 | a::r,[],hl,h=>by simp at hl
def vi {α:Type} (p:α->α->Bool) (a b:List α) (k:Nat):Prop:=∀ j x y,j < k->a[j]?=some x->b[j]?=some y->p x y=true
theorem nN {α:Type} {p:α->α->Bool} {a b:List α} {k:Nat} {x y:α} (I:a[k]?=some x) (M:b[k]?=some y) (h:vi p a b k) (hp:p x y=true):vi p a b (k+1):=fun j u v hj h3 h4=>by
 by_cases he:j=k
 ·subst he;rw [I] at h3;rw [M] at h4;cases h3;cases h4;exact hp
 ·exact h j u v aq h3 h4
theorem pd {α:Type} {p:α->α->Bool} {a b:List α} (hl:a.length=b.length) (h:vi p a b a.length):gx p a b=true :=
 Kj hl fun k x y I M=>h k x y (bq I).1 I M
def tK (a b:Go.Sp.Fn):Bool:=((a.name==b.name)&&gx (fun x y=>x==y) a.params b.params)&&(a.body==b.body)
def mD (a b:Go.Xp.Nd):Bool:=(((a.kind==b.kind)&&(a.n==b.n))&&(a.s==b.s))&&gx (fun x y=>x==y) a.kids b.kids
def Bo (x y:Go.Xp.Ar):Bool:=(x.name==y.name)&&(x.size==y.size)
open Go.Xp Go.Sp
theorem Kn (l:List T):(aU l).length=l.length:=by rw [uV,bV]
theorem zz (t:T):(er t).n=⟨t.n.kind,0,t.n.n,t.n.s,[]⟩:=by cases t;rw [er];rfl
theorem Vt (t:T):(er t).kids=aU t.kids:=by cases t;rw [er];rfl
mutual
theorem xX:∀ t:T,aJ (er t)=aJ t
 | .mk n l=>by rw [er,aJ,aJ,xW l]
theorem xW:∀ l:List T,az (aU l)=az l
 | []=>by rw [aU]
 | t::r=>by rw [aU,az,az,xX t,xW r]
end
theorem FG (m:Nat):∀ (l:List T) (i:Nat),bE m i (aU l)=bE m i l
 | [],i=>by rw [aU]
 | t::r,i=>by rw [aU,bE,bE,FG m r (i+1),zz]
theorem F7:∀ (l:List T),(aU l).all (fun x=>iT x.n.kind)=l.all (fun x=>iT x.n.kind)
 | []=>by rw [aU]
 | t::r=>by rw [aU,all_cons,all_cons,F7 r,zz]
theorem YU (n:Nd) (k:Nat) (kd:Nat->Bool) (bl:Bool) (h:0<=n.at_) (h':own ⟨n.kind,0,n.n,n.s,[]⟩ k kd bl=true):own n k kd bl=true:=by
 unfold own at h' |-;rw [F zfL] at h';rw [F zfP];exact h'
mutual
theorem N3:∀ t:T,dO (er t)=true->zr t->dO t=true
 | .mk n l,h,ha=>by
  rw [er,dO,aH] at h;rw [zr] at ha;rw [dO,aH];refine ⟨J6 l h.1 ha.2,?_⟩;have M:own ⟨n.kind,0,n.n,n.s,[]⟩ (aU l).length (fun m=>bE m 0 (aU l)) ((aU l).all fun x=>iT x.n.kind)=true:=h.2;rw [Kn,F7] at M;simp only [FG] at M;exact YU n _ _ _ ha.1 M
theorem J6:∀ l:List T,cE (aU l)=true->nW l->cE l=true
 | [],_,_=>rfl
 | t::r,h,ha=>by
  rw [aU,cE,aH] at h;rw [nW] at ha;rw [cE,aH];exact ⟨N3 t h.1 ha.1,J6 r h.2 ha.2⟩
end
mutual
theorem N2:∀ t:T,dO t=true->zr t
 | .mk n l,h=>by
  rw [dO,aH] at h;rw [zr];refine ⟨?_,J5 l h.1⟩;have M:own n l.length (fun m=>bE m 0 l) (l.all fun x=>iT x.n.kind)=true:=h.2
  by_cases h0:n.at_ < 0
  ·unfold own at M;rw [ab zgn] at M;cases M
  ·omega
theorem J5:∀ l:List T,cE l=true->nW l
 | [],_=>trivial
 | t::r,h=>by
  rw [cE,aH] at h;rw [nW];exact ⟨N2 t h.1,J5 r h.2⟩
end
theorem mi (a:E):oz a.tree.n.kind=true:=by cases a <;> rfl
mutual
theorem E.hY:∀ a:E,a.ok=true->dO a.tree=true
 | .num n,h=>by
  simp only [E.ok,aH] at h;rw [E.tree,dO,cE];simp [cv,own,T.n,T.kids];exact h
 | .name s,h=>by
  simp only [E.ok] at h;rw [E.tree,dO,cE];simp [cv,own,T.n,T.kids,h]
 | .at_ s a,h=>by
  simp only [E.ok,aH] at h;have M:=E.hY a h.2;have h3:=mi a;rw [E.tree,dO,cE,cE,M];simp [cv,own,T.n,T.kids,h.1,bE];exact h3
 | .call s l,h=>by
  simp only [E.ok,aH] at h;obtain ⟨M,h3⟩:=E.uf l h.2;rw [E.tree,dO,M];have:=h3 (E.trees l).length 0 aq;simp [cv,own,T.n,T.kids,h.1,this]
 | .un s a,h=>by
  simp only [E.ok,aH] at h;have M:=E.hY a h.2;have h3:=mi a;rw [E.tree,dO,cE,cE,M];simp [cv,own,T.n,T.kids,bE];exact ⟨by simpa using h.1,h3⟩
 | .bin s a b,h=>by
  simp only [E.ok,aH] at h;have M:=E.hY a h.1.2;have h3:=mi a;have h4:=E.hY b h.2;have h5:=mi b;rw [E.tree,dO,cE,cE,cE,M,h4];simp [cv,own,T.n,T.kids,bE,h.1.1];exact ⟨h3,h5⟩
theorem E.uf:∀ l:List E,E.df l=true->cE (E.trees l)=true/\∀ m i,i+(E.trees l).length<=m->bE m i (E.trees l)=true
 | [],_=>⟨rfl,fun m i _=>rfl⟩
 | a::l,h=>by
  simp only [E.df,aH] at h;obtain ⟨M,h3⟩:=E.uf l h.2;refine ⟨by rw [E.trees,cE,E.hY a h.1,M];rfl,fun m i hm=>?_⟩;rw [E.trees,length_cons] at hm;rw [E.trees,bE,ab aq,mi a,h3 m (i+1) aq];rfl
end
theorem Y0 (a:S):iT a.tree.n.kind=true:=by cases a <;> rfl
mutual
theorem S.hY:∀ a:S,a.ok=true->dO a.tree=true
 | .set s a,h=>by
  exact zcn
 | .var s a,h=>by
  exact zcn
 | .ret a,h=>by
  exact zcu
 | .do_ a,h=>by
  exact zcu
 | .put s a b,h=>by
  simp only [S.ok,aH] at h;have M:=E.hY a h.2.1;have h3:=mi a;have h4:=E.hY b h.2.2;have h5:=mi b;rw [S.tree,dO,cE,cE,cE,M,h4];simp [cv,own,T.n,T.kids,bE,h.1];exact ⟨h3,h5⟩
 | .if1 c b,h=>by
  exact zbY
 | .if2 c b b2,h=>by
  simp only [S.ok,aH] at h;have M:=E.hY c h.1;have h3:=mi c;have h4:=S.xf b h.2.1;have h5:=S.xf b2 h.2.2;rw [S.tree,dO,cE,cE,cE,cE,M,h4,h5];simp [cv,own,T.n,T.kids,bE];exact h3
 | .while_ c b,h=>by
  exact zbY
theorem S.xf:∀ l:List S,S.df l=true->dO (.mk ⟨14,0,0,[],[]⟩ (S.trees l))=true
 | l,h=>by
  obtain ⟨I,M⟩:=S.uf l h;have h3:cv (.mk ⟨14,0,0,[],[]⟩ (S.trees l))=own ⟨14,0,0,[],[]⟩ (S.trees l).length (fun m=>bE m 0 (S.trees l)) ((S.trees l).all fun x=>iT x.n.kind):=rfl;rw [dO,I,h3,M];simp [own]
theorem S.uf:∀ l:List S,S.df l=true->cE (S.trees l)=true/\(S.trees l).all (fun x=>iT x.n.kind)=true
 | [],_=>⟨rfl,rfl⟩
 | a::l,h=>by
  simp only [S.df,aH] at h;obtain ⟨I,M⟩:=S.uf l h.2;exact ⟨by rw [S.trees,cE,S.hY a h.1,I];rfl,by rw [S.trees,all_cons,M,Y0 a];rfl⟩
end
theorem aar {n:Nd} {k:Nat} {kd:Nat->Bool} {bl:Bool} (h:own n k kd bl=true):dH n.kind k=true:=by
 have hc:n.kind=1\/n.kind=2\/n.kind=3\/n.kind=4\/n.kind=5\/n.kind=6\/n.kind=7\/n.kind=8\/n.kind=9\/n.kind=10\/n.kind=11\/n.kind=12\/n.kind=13\/n.kind=14\/(n.kind < 1\/14 < n.kind):=by omega
 unfold own at h
 by_cases h0:decide (n.at_ < 0)=true
 ·rw [ab h0] at h;cases h
 rw [F h0] at h
 by_cases I:(n.kind != 1&&n.n != 0)=true
 ·rw [ab I] at h;cases h
 rw [F I] at h;clear h0 I
 rcases hc with hk | hk | hk | hk | hk | hk | hk | hk | hk | hk | hk | hk | hk | hk | hk
 all_goals (first | (simp [hk] at h;simp [dH,hk];done) | (simp [hk] at h;simp [dH,hk];omega) | (simp [hk] at h;simp [dH,hk,h];done) | skip)
 ·exfalso
  have e1:(n.kind==1)=false:=by simp;omega
  have e2:(n.kind==2)=false:=by simp;omega
  have e3:(n.kind==3)=false:=by simp;omega
  have e4:(n.kind==4)=false:=by simp;omega
  have e5:(n.kind==5)=false:=by simp;omega
  have e6:(n.kind==6)=false:=by simp;omega
  have e7:(n.kind==7)=false:=by simp;omega
  have e8:(n.kind==8)=false:=by simp;omega
  have e9:(n.kind==9)=false:=by simp;omega
  have e10:(n.kind==10)=false:=by simp;omega
  have e11:(n.kind==11)=false:=by simp;omega
  have e12:(n.kind==12)=false:=by simp;omega
  have e13:(n.kind==13)=false:=by simp;omega
  have e14:(n.kind==14)=false:=by simp;omega
  rw [e1,e2,e3,e4,e5,e6,e7,e8,e9,e10,e11,e12,e13,e14] at h;simp at h
mutual
theorem TQ:∀ t:T,dO t=true->iU t=true
 | .mk n l,h=>by
  rw [dO,aH] at h;rw [iU,N4 l h.1,Bool.and_true];exact aar h.2
theorem N4:∀ l:List T,cE l=true->w5 l=true
 | [],_=>rfl
 | t::r,h=>by
  rw [cE,aH] at h;rw [w5,TQ t h.1,N4 r h.2];rfl
end
theorem SO (t:T) (z:Int):nk (er t) z=nk t z:=by unfold nk;rw [zz]
theorem Wy (n:Nd) (l:List T) (x:List ae):vP ⟨n.kind,0,n.n,n.s,[]⟩ (aU l) x=vP n l x:=by
 unfold vP
 match l with
 | []=>rw [aU]
 | [a]=>rw [aU,aU];simp only [zz]
 | a::b::r=>rw [aU,aU];simp only [zz,SO]
mutual
theorem QT:∀ t:T,dC (er t)=dC t
 | .mk n l=>by rw [er,dC,dC,EP l,Wy]
theorem EP:∀ l:List T,gY (aU l)=gY l
 | []=>by rw [aU]
 | t::r=>by rw [aU,gY,gY,QT t,EP r]
end
mutual
theorem Y8 (inl:List ae->Nat->ae):∀ (t:T) (d:Nat),lM dC inl d (er t)=lM dC inl d t
 | .mk n l,d=>by
  have h:=QT (.mk n l);rw [er] at h |-;rw [lM,lM,h,J7 inl l d,Kn]
  have:(aU l).map dC=l.map dC:=by rw [<-ER,<-ER,EP]
  rw [this];rfl
theorem J7 (inl:List ae->Nat->ae):∀ (l:List T) (d:Nat),rN dC inl d (aU l)=rN dC inl d l
 | [],d=>by rw [aU]
 | t::r,d=>by rw [aU,rN,rN,N8 inl t d,J7 inl r d]
theorem N8 (inl:List ae->Nat->ae):∀ (t:T) (d:Nat),oQ dC inl d (er t)=oQ dC inl d t
 | .mk n l,d=>by rw [er,oQ,oQ,LG inl l (d+1)]
theorem LG (inl:List ae->Nat->ae):∀ (l:List T) (d:Nat),zj dC inl d (aU l)=zj dC inl d l
 | [],d=>by rw [aU]
 | t::r,d=>by rw [aU,zj,zj,Y8 inl t d,LG inl r d]
end
theorem Qa {s:ae} (h:eP s=true):ub s=(eO s:Int):=by
 unfold ub eO
 cases hf:levels.findIdx? (fun l=>l.contains s) with
 | some i=>rfl
 | none =>
  rw [List.findIdx?_eq_none_iff] at hf;unfold eP at h;rw [qc] at h;obtain ⟨l,I,M⟩:=h;have:=hf l I;rw [M] at this;cases this
theorem K9 {a:E} (h:a.ok=true) (k:Nat) (hk:k<=9):nk a.tree (k:Int)=decide (a.lv < k):=by
 have key:∀ b:Bool,(false&&b)=decide (9 < k):=fun b=>by rw [Bool.false_and,decide_eq_false aq]
 cases a with
 | bin s x y =>
  simp only [E.ok,aH] at h;show (true&&decide (ub s < (k:Int)))=decide (eO s < k);rw [Qa h.1.1,Bool.true_and];exact decide_eq_decide.2 aq
 | num n=>exact key _
 | name n=>exact key _
 | at_ s a=>exact key _
 | call s l=>exact key _
 | un s a=>exact key _
theorem D4 (lv k:Nat) (x:ae):v8 (decide (lv < k)) x=sE lv k x:=by
 unfold v8 sE
 by_cases h:lv < k
 ·rw [ab zfP,ab h]
 ·rw [F zfP,F h]
theorem WT {a:E} (h:a.ok=true):(a.tree.n.kind==6)=decide (a.lv < 9):=by
 cases a with
 | bin s x y =>
  simp only [E.ok,aH] at h;have:=(ry h.1.1).1;show true=decide (eO s < 9);exact (decide_eq_true this).symm
 | _=>rfl
mutual
theorem kG:∀ a:E,a.ok=true->dC a.tree=a.bB
 | .num n,h=>by
  simp only [E.ok,aH,decide_eq_true_eq] at h;rw [E.tree,dC,E.bB];unfold vP pY;simp only [if_true];rw [F aq]
 | .name s,h=>by
  rw [E.tree,dC,E.bB];simp [vP]
 | .at_ s a,h=>by
  simp only [E.ok,aH] at h;have M:=kG a h.2;rw [E.tree,dC,gY,gY,M,E.bB];simp [vP]
 | .call s l,h=>by
  simp only [E.ok,aH] at h;rw [E.tree,dC,LO l h.2,E.bB];simp [vP]
 | .un s a,h=>by
  simp only [E.ok,aH] at h;have M:=kG a h.2;rw [E.tree,dC,gY,gY,M,E.bB,<-D4,<-WT h.2];simp [vP]
 | .bin s a b,h=>by
  simp only [E.ok,aH] at h;have M:=kG a h.1.2;have h3:=kG b h.2;have hl:=(ry h.1.1).1;have e1:=K9 h.1.2 (eO s) aq;have e2:=K9 h.2 (eO s+1) aq;rw [E.tree,dC,gY,gY,gY,M,h3,E.bB,<-D4,<-D4,<-e1,<-e2];unfold vP;simp only [Qa h.1.1];simp
theorem LO:∀ l:List E,E.df l=true->gY (E.trees l)=E.dz l
 | [],_=>rfl
 | a::l,h=>by
  simp only [E.df,aH] at h;rw [E.trees,gY,E.dz,kG a h.1,LO l h.2]
end
theorem Fa (x:E->ae):∀ (l:List S) (acc:ae),um acc (l.map (S.bB x))=S.dz x acc l
 | [],acc=>by rw [S.dz];rfl
 | a::l,acc=>by
  rw [S.dz,<-Fa x l];simp [um,de]
mutual
theorem Wo:∀ (s:S),s.ok=true->∀ d,lM dC gQ d s.tree=s.bB E.bB
 | .set s a,h,d=>by
  exact zdS
 | .var s a,h,d=>by
  exact zdS
 | .ret a,h,d=>by
  exact zee
 | .do_ a,h,d=>by
  exact zee
 | .put s a b,h,d=>by
  simp only [S.ok,aH] at h;rw [S.tree,lM,List.map_cons,List.map_cons,kG a h.2.1,kG b h.2.2,S.bB];simp [zk]
 | .if1 c b,h,d=>by
  exact zcv
 | .if2 c b b2,h,d=>by
  simp only [S.ok,aH] at h;have hb:=xe b h.2.1 d;have fJ:=xe b2 h.2.2 d;rw [S.tree,lM,List.map_cons,kG c h.1,rN,rN,rN,rN,hb,fJ,S.bB];simp [zk,fX]
 | .while_ c b,h,d=>by
  exact zcv
theorem xe:∀ (l:List S),S.df l=true->∀ d,oQ dC gQ d (.mk ⟨14,0,0,[],[]⟩ (S.trees l))=fX E.bB l
 | l,h,d=>by
  rw [oQ,LI l h (d+1),gQ,Fa];rfl
theorem LI:∀ (l:List S),S.df l=true->∀ d,zj dC gQ d (S.trees l)=l.map (S.bB E.bB)
 | [],_,d=>by rw [S.trees,zj];rfl
 | a::l,h,d=>by
  simp only [S.df,aH] at h;rw [S.trees,zj,List.map_cons,Wo a h.1,LI l h.2]
end
theorem sS {α:Type} {p:α->α->Bool} (h:∀ x,p x x=true):∀ l:List α,gx p l l=true
 | []=>rfl
 | a::l=>by rw [gx,h a,sS h l];rfl
theorem AM {α:Type} [BEq α] [LawfulBEq α]:∀ {a b:List α},gx (fun x y=>x==y) a b=true->a=b
 | [],[],_=>rfl
 | a::r,b::s,h=>by rw [gx,aH,beq_iff_eq] at h;rw [h.1,AM h.2]
 | [],b::s,h=>by cases h
 | a::r,[],h=>by cases h
theorem Kk {α:Type} {p:α->α->Bool}:∀ {a b:List α} {c d:List α},a.length=b.length->gx p (a++c) (b++d)=(gx p a b&&gx p c d)
 | [],[],c,d,_=>rfl
 | a::r,b::s,c,d,h=>by rw [cons_append,cons_append,gx,gx,Kk zfP,Bool.and_assoc]
 | [],b::s,_,_,h=>by simp at h
 | a::r,[],_,_,h=>by simp at h
theorem yx:∀ (l:List T) (a:Nat),bh a (aU l)=bh a l
 | [],a=>by rw [aU]
 | t::r,a=>by rw [aU,bh,bh,xX,yx r]
mutual
theorem Vy:∀ (t u:T) (a:Nat),er t=er u->gx mD (gL a t) (gL a u)=true
 | .mk n l,.mk m k,a,h=>by
  rw [er,er] at h
  injection h with I M
  injection I with h3 h4 h5 h6 h7
  rw [gL,gL,gx,Ee l k (a+1) M,Bool.and_true,<-yx l,<-yx k,M];simp only [mD,h3,h5,h6];simp [sS]
theorem Ee:∀ (l k:List T) (a:Nat),aU l=aU k->gx mD (bU a l) (bU a k)=true
 | [],[],a,_=>by rw [bU];rfl
 | t::r,u::s,a,h=>by
  rw [aU,aU] at h
  injection h with I M
  have hz:aJ t=aJ u:=by rw [<-xX t,I,xX u]
  rw [bU,bU,Kk (by rw [sT,sT,hz]),Vy t u a I,<-hz,Ee r s _ M];rfl
 | [],u::s,a,h=>by rw [aU,aU] at h;cases h
 | t::r,[],a,h=>by rw [aU,aU] at h;cases h
end
mutual
theorem Wj:∀ (t u:T) (a:Nat) (x y:List Nd),gx mD (gL a t++x) (gL a u++y)=true->er t=er u/\gx mD x y=true
 | .mk n l,.mk m k,a,x,y,h=>by
  rw [gL,gL,cons_append,cons_append,gx,aH] at h;obtain ⟨I,M⟩:=h;simp only [mD,aH,beq_iff_eq] at I;obtain ⟨⟨⟨h3,h4⟩,h5⟩,h6⟩:=I;have h7:=congrArg List.length (AM h6);rw [c6,c6] at h7;obtain ⟨h8,h9⟩:=EN l k (a+1) x y h7 M;exact ⟨by rw [er,er,h3,h4,h5,h8],h9⟩
theorem EN:∀ (l k:List T) (a:Nat) (x y:List Nd),l.length=k.length->gx mD (bU a l++x) (bU a k++y)=true->aU l=aU k/\gx mD x y=true
 | [],[],a,x,y,_,h=>by rw [bU,nil_append,nil_append] at h;exact ⟨rfl,h⟩
 | t::r,u::s,a,x,y,hl,h=>by
  rw [bU,bU,de,de] at h;obtain ⟨I,M⟩:=Wj t u a _ _ h
  have hz:aJ t=aJ u:=by rw [<-xX t,I,xX u]
  rw [<-hz] at M;obtain ⟨h3,h4⟩:=EN r s _ x y zfR M;exact ⟨by rw [aU,aU,I,h3],h4⟩
 | [],u::s,a,x,y,hl,h=>by simp at hl
 | t::r,[],a,x,y,hl,h=>by simp at hl
end
theorem Wi {l k:List T} (hl:l.length=k.length) (h:gx mD (bU 0 l) (bU 0 k)=true):aU l=aU k:=by
 have:=EN l k 0 [] [] hl (by rw [bO,bO];exact h);exact this.1
structure PS where
 trees:List T
 globals:List ae
 arrays:List Ar
 fns:List (ae × List ae)
def PS.empty:PS:=⟨[],[],[],[]⟩
def qF:Nat->List ae->RS->Option (List ae × RS)
 | 0,_,_=>none
 | f+1,acc,p =>
  if p.code=0/\is p 0 [41]=false then qF f (acc++[(tok (if acc.length=0 then p else want p [44]) 0).s]) (bF (if acc.length=0 then p else want p [44]))
  else some (acc,want p [41])
def iW (f:Nat) (p:RS) (st:PS):Option (RS × PS) :=
 if is p 0 nj=true then
  if (bF p.next).code=0/\is (bF p.next) 0 [91]=true then
   if (tok (bF p.next).next 0).kind=1 then
    some (want (want (bF p.next).next.next [93]) [59],{ st with arrays:=st.arrays++[⟨(tok p.next 0).s,(tok (bF p.next).next 0).n⟩] })
   else some (lS (bF p.next).next,st)
  else some (want (bF p.next) [59],{ st with globals:=st.globals++[(tok p.next 0).s] })
 else if is p 0 oB=true then
  match qF f [] (want (bF p.next) [40]) with
  | none=>none
  | some (l,q) =>
   if q.code=0 then match iS f (.block 1) q with
    | none=>none
    | some (t,q)=>some (q,{ st with trees:=st.trees++[t],fns:=st.fns++[((tok p.next 0).s,l)] })
   else some (q,st)
 else some (lS p,st)
def oS:Nat->Nat->RS->PS->Option (RS × PS)
 | 0,_,_,_=>none
 | g+1,f,p,st =>
  if p.code=0/\p.i < p.l.length then match iW f p st with
   | none=>none
   | some (p,st)=>oS g f p st
  else some (p,st)
theorem PN:∀ (f:Nat) (acc:List ae) (p:RS) (l:List ae) (q:RS),p.ok->qF f acc p=some (l,q)->p.to q
 | 0,_,_,_,_,_,h=>by cases h
 | f+1,acc,p,l,q,hp,h=>by
  rw [qF] at h;split at h
  ·have I:p.to (if acc.length=0 then p else want p [44]):=by split;exact lx hp;exact cS hp _
   have M:=jt (I.ok hp);have h3:=PN f _ _ l q ((I.trans M).ok hp) h;exact (I.trans M).trans h3
  ·cases h;exact cS hp _
theorem ZY {f:Nat} {p q:RS} {st eV:PS} (hp:p.ok) (h:iW f p st=some (q,eV)):p.to q:=by
 unfold iW at h;split at h
 ·rename_i hi;have I:=lh hi;have M:=I.trans (jt (I.ok hp));split at h
  ·rename_i hb;have h3:=M.trans (lh hb.2);split at h
   ·rename_i hk
    have nz:(tok (bF p.next).next 0).kind≠0:=by rw [hk];decide
    have h4:=h3.trans (ek (by have:=ue nz;exact this));have h5:=h4.trans (cS (h4.ok hp) [93])
    cases h;exact h5.trans (cS (h5.ok hp) _)
   ·cases h;exact h3.trans (yW (h3.ok hp))
  ·cases h;exact M.trans (cS (M.ok hp) _)
 ·split at h
  ·rename_i hi;have I:=lh hi;have M:=I.trans (jt (I.ok hp));have h3:=M.trans (cS (M.ok hp) [40])
   cases hm:qF f [] (want (bF p.next) [40]) with
   | none=>rw [hm] at h;cases h
   | some r =>
    obtain ⟨l,q1⟩:=r;rw [hm] at h;simp only at h;have h4:=h3.trans (PN _ _ _ _ _ (h3.ok hp) hm);split at h
    ·cases hb:iS f (.block 1) q1 with
     | none=>exact za5
     | some r =>
      obtain ⟨t,q2⟩:=r;rw [hb] at h;cases h;exact h4.trans ((Gs f).1 _ _ _ _ (h4.ok hp) hb)
    ·cases h;exact h4
  ·cases h;exact yW hp
structure PS.le (a:PS) (n:Nat):Prop where
 trees:a.trees.length<=n
 globals:a.globals.length<=n
 arrays:a.arrays.length<=n
 fns:a.fns.length=a.trees.length
theorem ZW {f n:Nat} {p q:RS} {st eV:PS} (h:iW f p st=some (q,eV)) (hs:st.le n):eV.le (n+1):=by
 obtain ⟨a,b,c,d⟩:=hs;have key:st.le (n+1):=⟨by omega,by omega,by omega,d⟩;unfold iW at h;split at h
 ·split at h
  ·split at h
   ·cases h;exact zcj
   ·cases h;exact key
  ·cases h;exact zcj
 ·split at h
  ·split at h
   ·cases h
   ·split at h
    ·split at h
     ·cases h
     ·cases h;exact zcj
    ·cases h;exact key
  ·cases h;exact key
end Go.Im
namespace Go.Sp
open Go.Xp
inductive Tz (s:ae):Nat->List Tok->Nat->Prop
 | nil (a:Nat):Tz s a [] a
 | blank {a b:Nat} {c:UInt8} {ts:List Tok} (hc:s[a]?=some c) (hb:eD c=true) (h:Tz s (a+1) ts b):Tz s a ts b
 | tok {a a' b:Nat} {c:UInt8} {t:Tok} {ts:List Tok} (hc:s[a]?=some c) (hb:eD c=false) (hr:bT s a [47,42]=false) (ht:ko s a c=(t,a')) (hk:t.kind=1\/t.kind=2\/t.kind=3) (hn:t.n<=2147483647) (ha:a < a') (h:Tz s a' ts b):Tz s a (t::ts) b
theorem Tz.app {s:ae} {a b c:Nat} {ts us:List Tok} (h:Tz s a ts b) (k:Tz s b us c):Tz s a (ts++us) c:=by
 induction h with
 | nil a=>exact k
 | blank hc hb h ih=>exact .blank hc hb (ih k)
 | tok hc hb hr ht hk hn ha h ih=>exact .tok hc hb hr ht hk hn ha (ih k)
theorem Tz.kinds {s:ae} {a b:Nat} {ts:List Tok} (h:Tz s a ts b):∀ t∈ts,t.kind=1\/t.kind=2\/t.kind=3:=by
 induction h with
 | nil a=>intro t h;cases h
 | blank hc hb h ih=>exact ih
 | tok hc hb hr ht hk hn ha h ih =>
  intro t h
  rcases dw h with rfl | h
  ·exact hk
  ·exact ih t h
theorem Tz.len {s:ae} {a b:Nat} {ts:List Tok} (h:Tz s a ts b):a+ts.length<=b:=by
 induction h with
 | nil a=>simp
 | blank hc hb h ih=>omega
 | tok hc hb hr ht hk hn ha h ih=>simp only [length_cons];omega
theorem QH (s:ae):∀ (f f' a:Nat),a<=s.length->s.length < f+a->s.length < f'+a->skip s f a=skip s f' a:=by
 intro f
 induction f with
 | zero=>intro f' a I M;omega
 | succ f ih =>
  intro f' a I M h3;obtain ⟨f',rfl⟩:∃ g,f'=g+1:=⟨f' - 1,by omega⟩;rw [skip,skip]
  cases hc:s[a]? with
  | none=>rfl
  | some c =>
   simp only;have aj:=(bq hc).1;split
   ·exact ih f' (a+1) aq aq aq
   ·split
    ·rename_i hb;have hb:=la hb;have hb:a+2<=s.length:=hb;have h4:=uI s s.length (a+2) hb;have h5:=tG s s.length (a+2) hb aq;split
     ·rfl
     ·rename_i hn
      have h6:bT s (fP s s.length (a+2)) [42,47]=true:=by
       cases rl:bT s (fP s s.length (a+2)) [42,47] with
       | true=>rfl
       | false=>exact absurd ⟨by omega,rl⟩ h5
      have h6:=la h6;have h6:fP s s.length (a+2)+2<=s.length:=h6;exact ih f' _ aq aq aq
    ·rfl
theorem Tz.jV {s:ae} {a b:Nat} {ts:List Tok} (h:Tz s a ts b):∀ (f:Nat) (acc:List Tok),sA s (f+ts.length) (skip s (s.length+1) a).1 acc=sA s f (skip s (s.length+1) b).1 (acc++ts):=by
 induction h with
 | nil a=>intro f acc;simp
 | blank hc hb h ih =>
  rename_i a b c ts;intro f acc;have aj:=(bq hc).1;rw [<-ih f acc]
  have:skip s (s.length+1) a=skip s (s.length+1) (a+1):=by
   rw [skip,hc];simp only;rw [ab hb];exact QH s _ _ _ aq aq aq
  rw [this]
 | tok hc hb hr ht hk hn ha h ih =>
  rename_i a a' b c t ts;intro f acc
  have:skip s (s.length+1) a=(a,-1):=by
   rw [skip,hc];simp only;rw [F zgo,F (by rw [hr];decide)]
  rw [this,length_cons,<-gn,sA,hc];simp only [ht];rw [ih f (acc++[t]),de];rfl
theorem Tz.all {s:ae} {ts:List Tok} (h:Tz s 0 ts s.length):Go.Sp.jV s=some ts:=by
 have I:=h.len;have M:=h.jV (s.length+2 - ts.length) [];unfold Go.Sp.jV;rw [show s.length+2 - ts.length+ts.length=s.length+2 by omega] at M;rw [M]
 have h3:skip s (s.length+1) s.length=(s.length,-1):=by rw [skip];simp
 rw [h3];obtain ⟨g,hg⟩:∃ g,s.length+2 - ts.length=g+1:=⟨s.length+1 - ts.length,by omega⟩;rw [hg,sA];simp
theorem oF {s r:ae} {a:Nat} {c:UInt8} (h:s.drop a=c::r):s[a]?=some c/\s.drop (a+1)=r/\a < s.length:=by
 have I:s[a]?=some c:=by
  have:=List.getElem?_drop (xs:=s) (i:=a) (j:=0);rw [h] at this;simpa using this.symm
 refine ⟨I,?_,(bq I).1⟩;rw [<-List.tail_drop,h];rfl
theorem We (s:ae) (p:UInt8->Bool):∀ (w post:ae) (f a:Nat),s.drop a=w++post->(∀ c∈w,p c=true)->run s p (f+w.length) a=run s p f (a+w.length):=by
 intro w
 induction w with
 | nil=>intro post f a h hp;rfl
 | cons c w ih =>
  intro post f a h hp;obtain ⟨I,M,_⟩:=oF h;rw [length_cons,<-gn,run,I];simp only;rw [ab (hp c (mem_cons_self)),ih post f (a+1) M (fun c hc=>hp c (cU _ hc))]
  congr 1;omega
theorem Tc (s:ae) (p:UInt8->Bool) (post:ae) (f a:Nat) (h:s.drop a=post) (hp:∀ c,post.head?=some c->p c=false):run s p f a=a:=by
 cases f with
 | zero=>rfl
 | succ f =>
  rw [run]
  cases post with
  | nil =>
   have:s[a]?=none:=by
    rw [List.getElem?_eq_none_iff];have:=congrArg List.length h;simp at this;omega
   rw [this]
  | cons c r =>
   exact zd4
theorem take_drop {s w post:ae} {a:Nat} (h:s.drop a=w++post):(s.take (a+w.length)).drop a=w:=by
 rw [List.drop_take,h,Nat.add_sub_cancel_left,List.take_left]
theorem H4 {s w post:ae} {a:Nat} (h:s.drop a=w++post) (ha:a<=s.length):a+w.length+post.length=s.length:=by
 have:=congrArg List.length h;simp only [jy,aM] at this;omega
theorem TJ {s w post:ae} {a:Nat} {c:UInt8} {r:ae} (ha:a<=s.length) (h:s.drop a=w++post) (hw:w=c::r) (hs:small c=true) (ba:∀ c∈w,eI c=true) (hp:∀ c,post.head?=some c->eI c=false) :
  ko s a c=(⟨if words.contains w=true then 3 else 2,0,w,a⟩,a+w.length):=by
 have hl:=H4 h ha
 have he:fE s a=a+w.length:=by
  unfold fE;obtain ⟨g,hg⟩:∃ g,s.length+1=g+w.length:=⟨s.length+1 - w.length,by omega⟩;rw [hg,We s eI w post g a h ba];refine Tc s eI post g _ ?_ hp;rw [<-List.drop_drop,h,drop_left]
 have hd:eS c=false:=by
  simp only [small,eS,aH] at hs |-;have I:=og hs.1
  have:¬ ((c.toNat:Int)<=57):=by omega
  simp [this]
 unfold ko;rw [F (by rw [hd];decide),ab hs];unfold gm;rw [he,take_drop h]
def fold (n:Int) (w:ae):Int:=w.foldl (fun n c=>if n<=2147483647 then n * 10+((c.toNat:Int) - 48) else n) n
theorem M6 (s:ae):∀ (w post:ae) (f:Nat) (n:Int) (a:Nat),s.drop a=w++post->(∀ c∈w,eS c=true)->number s (f+w.length) n a=number s f (fold n w) (a+w.length):=by
 intro w
 induction w with
 | nil=>intro post f n a h hp;rfl
 | cons c w ih =>
  intro post f n a h hp;obtain ⟨I,M,_⟩:=oF h;rw [length_cons,<-gn,number,I];simp only;rw [ab (hp c (mem_cons_self)),ih post f _ (a+1) M (fun c hc=>hp c (cU _ hc))];rw [show a+1+w.length=a+(w.length+1) by omega];rfl
theorem JO (s:ae) (post:ae) (f:Nat) (n:Int) (a:Nat) (h:s.drop a=post) (hp:∀ c,post.head?=some c->eS c=false):number s f n a=(n,a):=by
 cases f with
 | zero=>rfl
 | succ f =>
  rw [number]
  cases post with
  | nil =>
   have:s[a]?=none:=by
    rw [List.getElem?_eq_none_iff];have:=congrArg List.length h;simp at this;omega
   rw [this]
  | cons c r =>
   exact zd4
theorem Ow (k:Nat) (h:k<=9):eS (UInt8.ofNat (48+k))=true/\((UInt8.ofNat (48+k)).toNat:Int)=48+k:=by
 have:(UInt8.ofNat (48+k)).toNat=48+k:=by simp;omega
 refine ⟨?_,by rw [this];omega⟩;simp only [eS,aH,this];exact ⟨decide_eq_true aq,decide_eq_true aq⟩
theorem Kg (n:Nat):(∀ c∈dk n,eS c=true)/\(n<=2147483647->fold 0 (dk n)=n)/\dk n≠[]:=by
 induction n using Nat.strongRecOn with
 | _ n ih =>
 unfold dk
 by_cases h:n < 10
 ·rw [dif_pos h];obtain ⟨I,M⟩:=Ow n aq;refine ⟨fun c hc=>by rw [mem_singleton] at hc;subst hc;exact I,fun _=>?_,by simp⟩;simp only [fold,foldl_cons,List.foldl_nil];rw [ab aq,M];omega
 ·rw [dif_neg h];obtain ⟨I,M,h3⟩:=ih (n / 10) aq;obtain ⟨h4,h5⟩:=Ow (n % 10) aq;refine ⟨fun c hc=>?_,fun hn=>?_,by simp⟩
  ·rcases pQ hc with hc | hc
   ·exact I c hc
   ·rw [mem_singleton] at hc;subst hc;exact h4
  ·have:=M aq;unfold fold at this |-;rw [List.foldl_append,this];simp only [foldl_cons,List.foldl_nil];rw [ab aq,h5];omega
theorem V3 {s post:ae} {n a:Nat} {c:UInt8} {r:ae} (ha:a<=s.length) (h:s.drop a=dk n++post) (hw:dk n=c::r) (hn:n<=2147483647) (hp:∀ c,post.head?=some c->eS c=false) :
  ko s a c=(⟨1,n,[],a⟩,a+(dk n).length):=by
 obtain ⟨I,M,h3⟩:=Kg n;have hl:=H4 h ha;have hd:eS c=true:=I c (by rw [hw];exact mem_cons_self);obtain ⟨g,hg⟩:∃ g,s.length+1=g+(dk n).length:=⟨s.length+1 - (dk n).length,by omega⟩;unfold ko;rw [ab hd,hg,M6 s (dk n) post g 0 a h I,M hn,JO s post g _ _ (by rw [<-List.drop_drop,h,drop_left]) hp]
theorem wR {s r t:ae} {a:Nat} (h:s.drop a=r) (ha:a<=s.length):bT s a t=t.isPrefixOf r:=by
 have hl:a+r.length=s.length:=by have:=congrArg List.length h;simp at this;omega
 unfold bT;rw [List.drop_take,h,Nat.add_sub_cancel_left]
 by_cases hp:t <+: r
 ·obtain ⟨z,rfl⟩:=hp;simp only [aM] at hl
  have M:t.isPrefixOf (t++z)=true:=by rw [List.isPrefixOf_iff_prefix];exact ⟨z,rfl⟩
  rw [M,List.take_left];simp only [aH,beq_self_eq_true,and_true,decide_eq_true_eq];omega
 ·have I:t.isPrefixOf r=false:=by
   cases hh:t.isPrefixOf r with
   | false=>rfl
   | true=>exact absurd (List.isPrefixOf_iff_prefix.1 hh) hp
  rw [I]
  have M:(r.take t.length==t)=false:=by
   rw [beq_eq_false_iff_ne];intro h3;exact hp ⟨r.drop t.length,by have:=take_append_drop t.length r;rw [h3] at this;exact this⟩
  rw [M,Bool.and_false]
def EL:List UInt8:=[32,40,41,91,93,44,59,123,125,10]
def Sep (post:ae):Prop:=∀ c,post.head?=some c->c∈EL
theorem Sep.eI {post:ae} (h:Sep post):∀ c,post.head?=some c->eI c=false:=by
 intro c hc
 have:∀ c∈EL,Go.Sp.eI c=false:=by decide
 exact this c (h c hc)
theorem Sep.eS {post:ae} (h:Sep post):∀ c,post.head?=some c->eS c=false:=by
 intro c hc
 have:∀ c∈EL,Go.Sp.eS c=false:=by decide
 exact this c (h c hc)
theorem V7 {x y z:ae} (h:x.length<=y.length):x.isPrefixOf (y++z)=x.isPrefixOf y:=by
 induction x generalizing y with
 | nil=>simp
 | cons a x ih =>
  cases y with
  | nil=>simp at h
  | cons b y=>simp only [cons_append,List.isPrefixOf];rw [ih zfP]
theorem find_congr {α:Type} {p q:α->Bool}:∀ {l:List α},(∀ x∈l,p x=q x)->l.find? p=l.find? q
 | [],_=>rfl
 | a::l,h=>by rw [List.find?_cons,List.find?_cons,h a (mem_cons_self),find_congr (fun x hx=>h x (cU _ hx))]
theorem Ti {s w post:ae} {a:Nat} {c:UInt8} {r:ae} (ha:a<=s.length) (h:s.drop a=w++post) (hw:w=c::r) (hm:w∈cl) (hp:Sep post) :
  ko s a c=(⟨3,0,w,a⟩,a+w.length)/\eD c=false/\bT s a [47,42]=false:=by
 have hd:∀ w∈cl,∀ c,w.head?=some c->eS c=false/\small c=false/\eD c=false:=by
  have:∀ w∈cl,(match w.head? with | some c=>!eS c&&!small c&&!eD c | none=>true)=true:=by decide
  intro w hw c hc;have:=this w hw;rw [hc] at this;simp only [aH,Bool.not_eq_true'] at this;exact ⟨this.1.1,this.1.2,this.2⟩
 obtain ⟨I,M,h3⟩:=hd w hm c (by rw [hw];rfl)
 have Gq:∀ w∈cl,w.length<=2/\1<=w.length:=by decide
 have key:∀ w∈cl,cl.find? (fun x=>x.isPrefixOf w)=some w/\[47,42].isPrefixOf w=false:=by decide
 have abT:∀ w∈cl,∀ c∈EL,cl.find? (fun x=>x.isPrefixOf (w++[c]))=some w/\[47,42].isPrefixOf (w++[c])=false:=by decide
 have hf:cl.find? (bT s a)=some w/\bT s a [47,42]=false:=by
  have e1:∀ x,bT s a x=x.isPrefixOf (w++post):=fun x=>wR h ha
  have e2:cl.find? (bT s a)=cl.find? (fun x=>x.isPrefixOf (w++post)):=find_congr fun x _=>e1 x
  rw [e2,e1]
  cases post with
  | nil=>rw [bO];exact key w hm
  | cons c' post =>
   have eg:=hp c' rfl
   have e3:∀ x:ae,x.length<=2->x.isPrefixOf (w++c'::post)=x.isPrefixOf (w++[c']):=fun x hx=>by
    rw [show w++c'::post=(w++[c'])++post by simp];exact V7 (by rw [aM];have:=(Gq w hm).2;simp;omega)
   rw [find_congr fun x hx=>e3 x (Gq x hx).1,e3 _ av];exact abT w hm c' eg
 refine ⟨?_,h3,hf.2⟩;unfold ko;rw [F (by rw [I];decide),F (by rw [M];decide),hf.1]
theorem R0 {s post:ae} {a:Nat} {c:UInt8} (ha:a<=s.length) (h:s.drop a=c::post) (hm:c∈[40,41,91,93,44,59,123,125]) :
  ko s a c=(⟨3,0,[c],a⟩,a+1)/\eD c=false/\bT s a [47,42]=false:=by
 have hd:∀ c∈([40,41,91,93,44,59,123,125]:List UInt8),eS c=false/\small c=false/\eD c=false/\c≠47:=by decide
 obtain ⟨I,M,h3,h4⟩:=hd c hm
 have e1:∀ x,bT s a x=x.isPrefixOf (c::post):=fun x=>wR h ha
 have e2:cl.find? (bT s a)=cl.find? (fun x=>x.isPrefixOf (c::post)):=find_congr fun x _=>e1 x
 have key:∀ post:ae,∀ c∈([40,41,91,93,44,59,123,125]:List UInt8),cl.find? (fun x=>x.isPrefixOf (c::post))=some [c]:=by
  intro post c hc;simp only [List.mem_cons,List.not_mem_nil,or_false] at hc
  rcases hc with rfl | rfl | rfl | rfl | rfl | rfl | rfl | rfl <;> rfl
 refine ⟨?_,h3,?_⟩
 ·unfold ko;rw [F (by rw [I];decide),F (by rw [M];decide),e2,key post c hm];rfl
 ·rw [e1];simp only [List.isPrefixOf]
  have:((47:UInt8)==c)=false:=by rw [beq_eq_false_iff_ne];exact fun h=>h4 h.symm
  rw [this,Bool.false_and]
end Go.Sp
namespace Go.Im
open Go.Xp Go.Sp
def nI:List ae:=[[105,110,116],[118,97,114],[102,117,110,99],[105,102],[101,108,115,101],[119,104,105,108,101],[114,101,116,117,114,110],[124,124],[38,38],[61,61],[33,61],[60,61],[62,61],[60,60],[62,62],[40],[41],[123],[125],[91],[93],[44],[59],[61],[60],[62],[43],[45],[42],[47],[37],[38],[124],[94],[33],[126]]
theorem Au:nI=words++cl:=by decide
def lH (s:ae):Bool:=nI.contains s
def lK:ae->Int->Int
 | [],n=>n
 | c::r,n=>if n<=2147483647 then lK r (10 * n+((c.toNat:Int) - 48)) else n
def dj (s:ae) (a b:Nat):ae:=(s.take b).drop a
def iX (s:ae) (a:Nat) (k:Nat):Bool:=decide (a+k<=s.length)&&(match s[a]? with | some c=>!(small c) | none=>false)&&lH (dj s a (a+k))
def ik (s:ae) (a:Nat):ae:=if iX s a 2=true then dj s a (a+2) else if iX s a 1=true then dj s a (a+1) else []
def lB (s:ae) (a:Nat):Nat:=run s eS (s.length+1) a
def sx:Tok:=⟨0,0,[],0⟩
def l9 (s:ae) (a:Nat) (c:UInt8):Tok × Nat × Int :=
 if eS c=true then
  if lK (dj s a (lB s a)) 0 > 2147483647 then (sx,a,3) else (⟨1,lK (dj s a (lB s a)) 0,[],a⟩,lB s a,0)
 else if small c=true then (⟨if lH (gm s a)=true then 3 else 2,0,gm s a,a⟩,fE s a,0)
 else if ik s a=[] then (sx,a,2)
 else (⟨3,0,ik s a,a⟩,a+(ik s a).length,0)
def rY:ae->Option Nat
 | []=>none
 | b::l=>if List.isPrefixOf [42,47] (b::l) then some 0 else match rY l with | none=>none | some n=>some (n+1)
def oL (s:ae):Nat->Nat->List Tok->Option (List Tok × Int × Int)
 | 0,_,_=>none
 | f+1,a,acc=>match s[a]? with
  | none=>some (acc,0,0)
  | some c =>
   if eD c=true then oL s f (a+1) acc
   else if bT s a [47,42]=true then
    match rY (s.drop (a+2)) with
    | none=>some ([],4,a)
    | some n=>oL s f (a+(n+4)) acc
   else if (l9 s a c).2.2≠0 then some ([],(l9 s a c).2.2,a)
   else oL s f (l9 s a c).2.1 (acc++[(l9 s a c).1])
structure CU (t:Tok):Prop where
 num:t.kind=1->0<=t.n/\t.n<=2147483647/\t.s=[]
 name:t.kind=2->word t.s=true/\lH t.s=false
 sign:t.kind=3->lH t.s=true
 kinds:t.kind=1\/t.kind=2\/t.kind=3
theorem mN {s:ae} {a b:Nat} (h:b<=s.length):(dj s a b).length=b - a:=by
 unfold dj;rw [jy,du];omega
theorem re {s:ae} {a b:Nat} {c:UInt8} (h:s[a]?=some c) (hb:a < b) (hl:b<=s.length):dj s a b=c::dj s (a+1) b:=by
 unfold dj;have aj:=(bq h).1
 have:(s.take b)[a]?=some c:=by rw [getElem?_take,ab hb];exact h
 have M:=(bq this);rw [lT M.1,M.2]
theorem EI (s:ae) (p:UInt8->Bool):∀ (f a:Nat),a<=s.length->∀ c∈dj s a (run s p f a),p c=true:=by
 intro f
 induction f with
 | zero =>
  intro a ha c hc;rw [Go.Sp.run] at hc
  have:(dj s a a).length=0:=by rw [mN ha];omega
  rw [gC this] at hc;cases hc
 | succ f ih =>
  intro a ha c hc;rw [Go.Sp.run] at hc
  have HG:∀ x:ae,x=dj s a a->c∈x->p c=true:=fun x hx hm=>by
   have:(dj s a a).length=0:=by rw [mN ha];omega
   rw [hx,gC this] at hm;cases hm
  cases hq:s[a]? with
  | none=>rw [hq] at hc;exact HG _ rfl hc
  | some d =>
   rw [hq] at hc;simp only at hc;have aj:=(bq hq).1
   by_cases hp:p d=true
   ·rw [ab hp] at hc
    have ny:a+1<=Go.Sp.run s p f (a+1)/\Go.Sp.run s p f (a+1)<=s.length:=by
     have:∀ (f a:Nat),a<=s.length->a<=Go.Sp.run s p f a/\Go.Sp.run s p f a<=s.length:=by
      intro f
      induction f with
      | zero=>intro a h;exact ze0
      | succ f ih =>
       intro a h;rw [Go.Sp.run]
       cases hq:s[a]? with
       | none=>exact ze0
       | some d =>
        simp only;split
        ·have:=ih (a+1) (bq hq).1;omega
        ·exact ze0
     exact this f (a+1) aj
    rw [re hq aq ny.2] at hc
    rcases dw hc with rfl | hc
    ·exact hp
    ·exact ih (a+1) aj c hc
   ·rw [F hp] at hc;exact HG _ rfl hc
theorem Lo:∀ (w:ae) (n:Int),0<=n->(∀ c∈w,eS c=true)->0<=lK w n
 | [],n,h,_=>h
 | c::r,n,h,hd=>by
  rw [lK];have hc:=hd c (mem_cons_self);simp only [eS,aH,decide_eq_true_eq] at hc;split
  ·exact Lo r _ aq (fun c hc=>hd c (cU _ hc))
  ·exact h
theorem Ss {x:ae} (h:lH x=true):x≠[]:=by
 intro h0;subst h0;revert h;decide
theorem LQ {s:ae} {a:Nat} {c:UInt8} (hc:s[a]?=some c) (h0:(l9 s a c).2.2=0):CU (l9 s a c).1/\(l9 s a c).1.at_=a/\a < (l9 s a c).2.1/\(l9 s a c).2.1<=s.length:=by
 have aj:=(bq hc).1;unfold l9 at h0 |-
 by_cases hd:eS c=true
 ·rw [ab hd] at h0 |-
  by_cases hn:lK (dj s a (lB s a)) 0 > 2147483647
  ·rw [ab hn] at h0;cases h0
  ·rw [F hn];obtain ⟨e1,e2,e3⟩:=rC s eS (s.length+1) a aq aq
   have BC:a < lB s a:=by
    rcases Nat.lt_or_ge a (lB s a) with h | h
    ·exact h
    ·have he:Go.Sp.run s eS (s.length+1) a=a:=by unfold lB at h;omega
     have:=e1 c (by rw [he];exact hc);rw [hd] at this;cases this
   refine ⟨⟨fun _=>⟨Lo _ _ av (EI s eS _ a aq),by simpa using hn,rfl⟩,fun h=>by simp at h,fun h=>by simp at h,.inl rfl⟩,rfl,BC,e3⟩
 ·rw [F hd] at h0 |-
  by_cases hs:small c=true
  ·rw [ab hs];obtain ⟨e1,e2,e3⟩:=rC s eI (s.length+1) a aq aq
   have xr:eI c=true:=by simp [eI,hs]
   have BC:a < fE s a:=by
    rcases Nat.lt_or_ge a (fE s a) with h | h
    ·exact h
    ·have he:Go.Sp.run s eI (s.length+1) a=a:=by unfold fE at h;omega
     exact zfk
   have hw:word (gm s a)=true:=by
    have I:gm s a=c::dj s (a+1) (fE s a):=re hc BC e3;have M:=EI s eI (s.length+1) a aq;unfold word;have h3:(gm s a).all eI=true:=gU.2 M;rw [h3,I];simp [hs]
   refine ⟨⟨fun h=>?_,fun h=>⟨hw,?_⟩,fun h=>?_,?_⟩,rfl,BC,e3⟩
   ·simp only at h;exact zfb
   ·simp only at h;split at h
    ·cases h
    ·rename_i hh;simpa using hh
   ·simp only at h;split at h
    ·assumption
    ·cases h
   ·simp only;split
    ·exact .inr (.inr rfl)
    ·exact .inr (.inl rfl)
  ·rw [F hs] at h0 |-
   by_cases hg:ik s a=[]
   ·rw [ab hg] at h0;cases h0
   ·rw [F hg]
    have key:lH (ik s a)=true/\a+(ik s a).length<=s.length:=by
     unfold ik at hg |-
     have aux:∀ k,iX s a k=true->lH (dj s a (a+k))=true/\a+(dj s a (a+k)).length<=s.length:=fun k h=>by
      simp only [iX,aH,decide_eq_true_eq] at h;refine ⟨h.2,?_⟩;rw [mN h.1.1];have:=h.1.1;omega
     split
     ·exact aux 2 (by assumption)
     ·rename_i M;rw [F M] at hg;split
      ·exact aux 1 (by assumption)
      ·rename_i I;rw [F I] at hg;exact absurd rfl hg
    have hl:=List.length_pos_iff.2 (Ss key.1);exact ⟨⟨fun h=>by simp at h,fun h=>by simp at h,fun _=>key.1,.inr (.inr rfl)⟩,rfl,by simp only;omega,key.2⟩
theorem Em:∀ {l:ae} {n:Nat},rY l=some n->n+2<=l.length
 | [],n,h=>by cases h
 | b::l,n,h=>by
  rw [rY] at h;split at h
  ·rename_i hp;cases h
   cases l with
   | nil=>simp [List.isPrefixOf] at hp
   | cons d l=>simp
  ·cases hq:rY l with
   | none=>rw [hq] at h;cases h
   | some m=>rw [hq] at h;cases h;have:=Em hq;simp only [length_cons];omega
theorem tZ (s:ae):∀ (f a:Nat) (acc:List Tok),a<=s.length->s.length < f+a->(∀ t∈acc,CU t)->(acc.Pairwise fun x y=>x.at_ < y.at_)->(∀ t∈acc,t.at_ < (a:Int))->acc.length<=a ->
  ∃ ts c z,oL s f a acc=some (ts,c,z)/\(∀ t∈ts,CU t)/\(ts.Pairwise fun x y=>x.at_ < y.at_)/\ts.length<=s.length
 | 0,a,acc,I,M,_,_,_,_=>by omega
 | f+1,a,acc,I,M,h3,h4,h5,h6=>by
  rw [oL]
  cases hc:s[a]? with
  | none=>exact ⟨acc,0,0,rfl,h3,h4,by omega⟩
  | some c =>
   simp only;have aj:=(bq hc).1;split
   ·exact tZ s f (a+1) acc aq aq h3 h4 (fun t ht=>by have:=h5 t ht;omega) aq
   ·split
    ·rename_i hb;have ln:=la hb;simp only [length_cons,length_nil] at ln
     cases hi:rY (s.drop (a+2)) with
     | none=>exact ⟨[],4,a,rfl,fun t h=>by simp at h,.nil,aO _⟩
     | some n =>
      have:=Em hi;rw [jy] at this;exact tZ s f (a+(n+4)) acc aq aq h3 h4 (fun t ht=>by have:=h5 t ht;omega) aq
    ·split
     ·exact ⟨[],_,a,rfl,fun t h=>by simp at h,.nil,aO _⟩
     ·rename_i h0;obtain ⟨k1,k2,k3,k4⟩:=LQ hc zgn;refine tZ s f _ _ k4 aq (fun t ht=>?_) ?_ (fun t ht=>?_) (by rw [aM];simp only [length_cons,length_nil];omega)
      ·rcases pQ ht with h | h
       ·exact h3 t h
       ·rw [mem_singleton] at h;subst h;exact k1
      ·rw [List.pairwise_append];refine ⟨h4,List.pairwise_singleton _ _,fun x hx y hy=>?_⟩;rw [mem_singleton] at hy;subst hy;rw [k2];exact h5 x hx
      ·rcases pQ ht with h | h
       ·have:=h5 t h;omega
       ·rw [mem_singleton] at h;subst h;rw [k2];omega
theorem BP (s:ae):∀ (f:Nat) (n:Int) (a:Nat),a<=s.length->s.length < f+a->lK (dj s a (number s f n a).2) n=(number s f n a).1
 | 0,n,a,I,M=>by omega
 | f+1,n,a,I,M=>by
  have HG:dj s a a=[]:=gC (by rw [mN I];omega);rw [number]
  cases hc:s[a]? with
  | none=>simp only;rw [HG,lK]
  | some c =>
   simp only;have aj:=(bq hc).1
   by_cases hd:eS c=true
   ·rw [ab hd];obtain ⟨e1,e2,e3⟩:=yK s f (if n<=2147483647 then n * 10+((c.toNat:Int) - 48) else n) (a+1) aq aq;rw [re hc aq e3,lK];have ih:=BP s f (if n<=2147483647 then n * 10+((c.toNat:Int) - 48) else n) (a+1) aq aq
    by_cases hn:n<=2147483647
    ·rw [ab hn] at ih |-;rw [ab hn,Int.mul_comm 10 n];exact ih
    ·rw [F hn] at ih |-;rw [F hn];rw [<-ih]
     cases hw:dj s (a+1) (number s f n (a+1)).2 with
     | nil=>rw [lK]
     | cons d r=>rw [lK,F hn]
   ·rw [F hd];simp only;rw [HG,lK]
theorem DD (s:ae):∀ (f:Nat) (n:Int) (a:Nat),(number s f n a).2=Go.Sp.run s eS f a
 | 0,n,a=>rfl
 | f+1,n,a=>by
  rw [number,Go.Sp.run]
  cases hc:s[a]? with
  | none=>rfl
  | some c =>
   simp only;split
   ·exact DD s f _ (a+1)
   ·rfl
theorem pR {s x:ae} {a:Nat}:bT s a x=(decide (a+x.length<=s.length)&&(dj s a (a+x.length)==x)):=rfl
theorem Nl {s:ae} {a:Nat} {c:UInt8} (hc:s[a]?=some c) (hs:small c=false):ik s a=(match cl.find? (bT s a) with | some x=>x | none=>[]):=by
 have aj:=(bq hc).1
 have M:∀ x∈cl,x.length=1\/x.length=2:=by decide
 have Dl:cl=cl.take 8++cl.drop 8:=(take_append_drop 8 cl).symm
 have gM:∀ x∈cl.take 8,x.length=2:=by decide
 have fK:∀ x∈cl.drop 8,x.length=1:=by decide
 have hw:∀ x∈words,∃ d r,x=d::r/\small d=true:=by
  intro x hx
  have:∀ x∈words,(match x with | d::_=>small d | []=>false)=true:=by decide
  have:=this x hx
  cases x with
  | nil=>cases this
  | cons d r=>exact ⟨d,r,rfl,this⟩
 have R9:∀ k,1<=k->a+k<=s.length->dj s a (a+k)=c::dj s (a+1) (a+k):=fun k I M=>re hc aq M
 have eu:∀ k,1<=k->a+k<=s.length->(lH (dj s a (a+k))=true↔dj s a (a+k)∈cl):=fun k I M=>by
  unfold lH;rw [Au,il,mem_append];refine ⟨fun h=>h.resolve_left fun hm=>?_,.inr⟩;obtain ⟨d,r,e1,e2⟩:=hw _ hm;rw [R9 k I M] at e1
  cases e1;rw [hs] at e2;cases e2
 have MF:∀ k,1<=k->(iX s a k=true↔a+k<=s.length/\dj s a (a+k)∈cl):=fun k I=>by
  unfold iX;rw [hc];simp only [hs,Bool.not_false,Bool.and_true,aH,decide_eq_true_eq];exact ⟨fun ⟨p,q⟩=>⟨p,(eu k I p).1 q⟩,fun ⟨p,q⟩=>⟨p,(eu k I p).2 q⟩⟩
 have Ek:∀ k,1<=k->k<=2->a+k<=s.length->dj s a (a+k)∈cl->(dj s a (a+k)).length=k:=fun k _ _ h _=>by rw [mN h];omega
 unfold ik
 by_cases t2:iX s a 2=true
 ·rw [ab t2];obtain ⟨p,q⟩:=(MF 2 av).1 t2
  have hq:dj s a (a+2)∈cl.take 8:=by
   rw [Dl] at q
   rcases pQ q with h | h
   ·exact h
   ·have:=fK _ h;rw [mN p] at this;omega
  rw [Dl,List.find?_append]
  have:(cl.take 8).find? (bT s a)=some (dj s a (a+2)):=by
   cases hf:(cl.take 8).find? (bT s a) with
   | none =>
    rw [find?_eq_none] at hf;have I:=hf _ hq;rw [pR,mN p,show a+(a+2 - a)=a+2 by omega] at I;simp [p] at I
   | some x =>
    have I:=List.find?_some hf;have h3:=gM x (List.mem_of_find?_eq_some hf);rw [pR,h3] at I;simp only [aH,beq_iff_eq] at I;rw [I.2]
  rw [this];rfl
 ·rw [F t2]
  have abC:(cl.take 8).find? (bT s a)=none:=by
   rw [find?_eq_none];intro x hx hb;rw [pR,gM x hx] at hb;simp only [aH,beq_iff_eq,decide_eq_true_eq] at hb;exact t2 ((MF 2 av).2 ⟨hb.1,by rw [hb.2];exact List.mem_of_mem_take hx⟩)
  rw [Dl,List.find?_append,abC]
  by_cases t1:iX s a 1=true
  ·rw [ab t1];obtain ⟨p,q⟩:=(MF 1 av).1 t1
   have hq:dj s a (a+1)∈cl.drop 8:=by
    rw [Dl] at q
    rcases pQ q with h | h
    ·have:=gM _ h;rw [mN p] at this;omega
    ·exact h
   have:(cl.drop 8).find? (bT s a)=some (dj s a (a+1)):=by
    cases hf:(cl.drop 8).find? (bT s a) with
    | none =>
     rw [find?_eq_none] at hf;have I:=hf _ hq;rw [pR,mN p,show a+(a+1 - a)=a+1 by omega] at I;simp [p] at I
    | some x =>
     have I:=List.find?_some hf;have h3:=fK x (List.mem_of_find?_eq_some hf);rw [pR,h3] at I;simp only [aH,beq_iff_eq] at I;rw [I.2]
   rw [this];rfl
  ·rw [F t1]
   have:(cl.drop 8).find? (bT s a)=none:=by
    rw [find?_eq_none];intro x hx hb;rw [pR,fK x hx] at hb;simp only [aH,beq_iff_eq,decide_eq_true_eq] at hb;exact t1 ((MF 1 av).2 ⟨hb.1,by rw [hb.2];exact List.mem_of_mem_drop hx⟩)
   rw [this];rfl
theorem WC {s:ae} {a a':Nat} {c:UInt8} {t:Tok} (hc:s[a]?=some c) (h:ko s a c=(t,a')) (hk:t.kind=1\/t.kind=2\/t.kind=3) (hn:t.n<=2147483647):l9 s a c=(t,a',0):=by
 have aj:=(bq hc).1;unfold ko at h;unfold l9
 by_cases hd:eS c=true
 ·rw [ab hd] at h |-;cases h;have e1:lB s a=(number s (s.length+1) 0 a).2:=(DD s _ 0 a).symm;rw [e1,BP s _ 0 a aq aq,F zgA]
 ·rw [F hd] at h |-
  by_cases hs:small c=true
  ·rw [ab hs] at h |-;cases h
   have HP:∃ r,gm s a=c::r\/gm s a=[]:=by
    cases hw:gm s a with
    | nil=>exact ⟨[],.inr rfl⟩
    | cons d r =>
     obtain ⟨e1,e2,e3⟩:=rC s eI (s.length+1) a aq aq
     have xr:eI c=true:=by simp [eI,hs]
     have BC:a < fE s a:=by
      rcases Nat.lt_or_ge a (fE s a) with h | h
      ·exact h
      ·have he:Go.Sp.run s eI (s.length+1) a=a:=by unfold fE at h;omega
       exact zfk
     have I:gm s a=c::dj s (a+1) (fE s a):=re hc BC e3;rw [hw] at I;cases I;exact ⟨_,.inl rfl⟩
   have eu:lH (gm s a)=words.contains (gm s a):=by
    unfold lH;rw [Au]
    have Di:∀ x∈cl,(match x with | d::_=>small d | []=>true)=false:=by decide
    obtain ⟨r,I⟩:=HP
    have:cl.contains (gm s a)=false:=by
     cases jF:cl.contains (gm s a) with
     | false=>rfl
     | true =>
      have:=Di _ (il.1 jF)
      rcases I with I | I <;> rw [I] at this <;> simp only at this
      ·rw [hs] at this;cases this
      ·cases this
    rw [Bool.eq_iff_iff,il,mem_append,<-il (as:=cl),this];simp
   rw [eu]
  ·rw [F hs] at h |-;rw [Nl hc (by simpa using hs)]
   cases hf:cl.find? (bT s a) with
   | none=>rw [hf] at h;cases h;simp at hk
   | some x =>
    rw [hf] at h;cases h;simp only;have hx:=List.mem_of_find?_eq_some hf
    have cn:x≠[]:=by
     intro h0;subst h0;revert hx;decide
    rw [F cn]
theorem VU {s:ae} {a b:Nat} {ts:List Tok} (h:Tz s a ts b):b=s.length->∀ (f:Nat) (acc:List Tok),s.length < f+a->oL s f a acc=some (acc++ts,0,0):=by
 induction h with
 | nil a =>
  intro hb f acc hf
  cases f with
  | zero=>omega
  | succ f =>
   rw [oL];have:s[a]?=none:=List.getElem?_eq_none_iff.2 aq;rw [this];simp
 | blank hc ln h ih =>
  intro hb f acc hf
  cases f with
  | zero=>have:=(bq hc).1;omega
  | succ f =>
   rw [oL,hc];simp only;rw [ab ln];exact ih hb f acc aq
 | tok hc ln hr ht hk hn ha h ih =>
  intro hb f acc hf
  cases f with
  | zero=>have:=(bq hc).1;omega
  | succ f =>
   rw [oL,hc];simp only;rw [F (by rw [ln];decide),F (by rw [hr];decide),WC hc ht hk hn];simp only [ne_eq,not_true_eq_false,if_false];rw [ih hb f _ aq];simp
abbrev tP (ts:List Tok):Prop:=∀ t∈ts,CU t
def EF (t:T):Prop:=∃ a:E,a.ok=true/\er t=a.tree
def NK (l:List T):Prop:=∃ es:List E,E.df es=true/\aU l=E.trees es
def Sf (ts r:List Tok) (n:Nat):Prop:=∃ pre,ts=pre++r/\n<=pre.length
theorem Sf.nil (ts:List Tok):Sf ts ts 0:=⟨[],rfl,aO _⟩
theorem Sf.one (t:Tok) (ts:List Tok):Sf (t::ts) ts 1:=⟨[t],rfl,aD _⟩
theorem Sf.trans {a b c:List Tok} {n m:Nat} (h:Sf a b n) (k:Sf b c m):Sf a c (n+m):=by
 obtain ⟨p,rfl,h⟩:=h;obtain ⟨q,rfl,k⟩:=k;exact ⟨p++q,by simp,by rw [aM];omega⟩
theorem Sf.le {a b:List Tok} {n m:Nat} (h:Sf a b n) (k:m<=n):Sf a b m:=by
 obtain ⟨p,rfl,h⟩:=h;exact ⟨p,rfl,by omega⟩
theorem Sf.ok {a b:List Tok} {n:Nat} (h:Sf a b n) (k:tP a):tP b:=by
 obtain ⟨p,rfl,h⟩:=h
 exact fun t ht=>k t (List.mem_append_right _ ht)
theorem Sf.aV {e:Int} {s:ae} {ts r:List Tok} (hs:s≠[]) (h:aV e s ts=.ok r):Sf ts r 1:=by
 obtain ⟨u,rfl,_⟩:=yF hs h;exact .one u r
theorem Sf.sign {s:ae} {ts:List Tok} (hs:s≠[]) (h:sign ts 0=s):Sf ts ts.tail 1:=by
 obtain ⟨u,I,_⟩:=vN hs h;rw [I];exact .one u _
theorem Tg {s:ae} (h:lH s=false):words.contains s=false:=by
 unfold lH at h;rw [Au] at h
 cases hc:words.contains s with
 | false=>rfl
 | true =>
  rw [il] at hc
  have:(words++cl).contains s=true:=by rw [il];exact List.mem_append_left _ hc
  rw [h] at this;cases this
theorem aae {t:Tok} (h:CU t) (hk:t.kind=2) (hl:t.s.length<=12):bs t.s=true:=by
 obtain ⟨I,M⟩:=h.name hk;unfold bs;rw [I,Tg M];simpa using hl
theorem Sf.name {e:Int} {s:ae} {ts r:List Tok} (h:name e ts=.ok (s,r)) (ho:tP ts):Sf ts r 1/\bs s=true:=by
 obtain ⟨u,rfl,I,rfl,h3⟩:=Ih h;exact ⟨.one u r,aae (ho u mem_cons_self) I h3⟩
theorem Vb {s:ae} {k:Nat} (h:s∈levels.getD k []):eP s=true:=by
 unfold eP;rw [qc];rw [List.getD_eq_getElem?_getD] at h
 cases hk:levels[k]? with
 | none=>rw [hk] at h;simp at h
 | some l =>
  rw [hk] at h;exact ⟨l,br hk,by rw [il];exact h⟩
theorem kF (k a:Int) (s:ae) (l:List T):aJ (one k a s l)=az l+1:=by unfold one;rw [aJ]
theorem NK.snoc {l:List T} {t:T} (h:NK l) (k:EF t):NK (l++[t]):=by
 obtain ⟨es,I,M⟩:=h;obtain ⟨a,h3,h4⟩:=k
 have key:∀ es:List E,E.df es=true->E.df (es++[a])=true/\E.trees (es++[a])=E.trees es++[a.tree]:=by
  intro es
  induction es with
  | nil=>intro _;simp [E.df,E.trees,h3]
  | cons b es ih =>
   intro h;simp only [E.df,aH] at h;obtain ⟨k1,k2⟩:=ih h.2;simp only [cons_append,E.df,E.trees,k1,k2,h.1];simp
 exact zdV
def xA:qp->Nat
 | .loop _ _ out=>aJ out
 | _=>0
def jok:qp->Prop
 | .loop _ _ out=>EF out
 | _=>True
theorem V9 (e:Int):∀ f,(∀ j ts t r,tP ts->jok j->rd e f j ts=.ok (t,r)->EF t/\∃ n,Sf ts r n/\aJ t<=n+xA j) /\
  (∀ d acc ts l r,tP ts->NK acc->rd.args e f d acc ts=.ok (l,r)->NK l/\∃ n,Sf ts r n/\az l+1<=n+az acc):=by
 intro f
 induction f with
 | zero=>exact ⟨fun j ts t r _ _ h=>by simp [rd] at h,fun d acc ts l r _ _ h=>by simp [rd.args] at h⟩
 | succ f ih =>
  obtain ⟨ih,z7⟩:=ih;refine ⟨fun j ts t r ho hj h=>?_,fun d acc ts l r ho hj h=>?_⟩
  ·cases j with
   | expr d =>
    rw [rd] at h;split at h
    ·cases h
    ·exact ih (.level 0 (d+1)) ts t r ho trivial h
   | level k d =>
    rw [rd] at h;split at h
    ·exact ih (.operand d) ts t r ho trivial h
    ·split at h
     ·cases h
     ·rename_i out kg hx;obtain ⟨I,n,M,h3⟩:=ih (.level (k+1) d) ts out kg ho trivial hx;obtain ⟨k1,m,k2,k3⟩:=ih (.loop k d out) kg t r (M.ok ho) I h;exact ⟨k1,n+m,M.trans k2,by simp only [xA] at *;omega⟩
   | loop k d out =>
    cases ts with
    | nil=>rw [rd] at h;cases h;exact ⟨hj,0,.nil _,by simp only [xA];omega⟩
    | cons t0 r0 =>
     rw [rd] at h;split at h
     ·rename_i hc;split at h
      ·cases h
      ·rename_i b r1 hx;obtain ⟨⟨b',h0,I⟩,n,M,h3⟩:=ih (.level (k+1) d) r0 b r1 (fun t ht=>ho t (cU _ ht)) trivial hx;obtain ⟨o',h4,h5⟩:=hj;have h6:=(Sf.one t0 r0).trans M;obtain ⟨k1,m,k2,k3⟩:=ih (.loop k d (one 6 t0.at_ t0.s [out,b])) r1 t r (h6.ok ho) ⟨.bin t0.s o' b',by simp only [E.ok,Vb hc.2,h4,h0];rfl,by rw [eG,aU,aU,aU,h5,I,E.tree]⟩ h;refine ⟨k1,_,h6.trans k2,?_⟩;exact zdZ
     ·cases h;exact ⟨hj,0,.nil _,by simp only [xA];omega⟩
   | operand d =>
    cases ts with
    | nil =>
     rw [rd] at h;exact zfb
    | cons t0 r0 =>
     rw [rd] at h;split at h
     ·cases h
     ·have X8:tP r0:=fun t ht=>ho t (cU _ ht)
      have xw:=Sf.one t0 r0;split at h
      ·split at h
       ·rename_i hu;split at h
        ·cases h
        ·rename_i a r1 hx;cases h;obtain ⟨⟨a',h0,I⟩,n,M,h3⟩:=ih (.operand (d+1)) r0 a r X8 trivial hx;refine ⟨⟨.un t0.s a',?_,by rw [eG,aU,aU,I,E.tree]⟩,_,xw.trans M,?_⟩
         ·simp only [E.ok,h0]
          rcases hu with hu | hu | hu <;> simp [hu]
         ·exact zdZ
       ·split at h
        ·split at h
         ·cases h
         ·rename_i a r1 hx;split at h
          ·cases h
          ·rename_i r2 hm;cases h;obtain ⟨I,n,M,h3⟩:=ih (.expr (d+1)) r0 t r1 X8 trivial hx;exact ⟨I,_,(xw.trans M).trans (Sf.aV av hm),by simp only [xA] at *;omega⟩
        ·cases h
      ·split at h
       ·rename_i hk;cases h;obtain ⟨k1,k2,k3⟩:=(ho t0 mem_cons_self).num hk;exact ⟨⟨.num t0.n,by simp only [E.ok];simp [k1,k2],by rw [er,aU,E.tree]⟩,1,xw,by simp only [xA,aJ,az];omega⟩
       ·split at h
        ·cases h
        ·rename_i s r1 fm;obtain ⟨k1,k2⟩:=Sf.name fm ho;split at h
         ·rename_i hb;have k3:=k1.trans (Sf.sign av hb);split at h
          ·cases h
          ·rename_i a r2 hx;split at h
           ·cases h
           ·rename_i r3 hm;cases h;obtain ⟨⟨a',h0,I⟩,n,M,h3⟩:=ih (.expr (d+1)) _ a r2 (k3.ok ho) trivial hx;refine ⟨⟨.at_ s a',by simp only [E.ok,k2,h0];rfl,by rw [eG,aU,aU,I,E.tree]⟩,_,(k3.trans M).trans (Sf.aV av hm),?_⟩;exact zdZ
         ·split at h
          ·rename_i hb;have k3:=k1.trans (Sf.sign av hb);split at h
           ·cases h
           ·rename_i l r2 hx;cases h;obtain ⟨⟨es,h0,I⟩,n,M,h3⟩:=z7 _ _ _ l r (k3.ok ho) ⟨[],rfl,rfl⟩ hx;refine ⟨⟨.call s es,by simp only [E.ok,k2,h0];rfl,by rw [eG,I,E.tree]⟩,_,k3.trans M,?_⟩;exact zdZ
          ·cases h;exact ⟨⟨.name s,by simp only [E.ok,k2],by rw [eG,aU,E.tree]⟩,1,k1,by simp only [xA,kF,az];omega⟩
  ·rw [rd.args] at h;split at h
   ·rename_i hc;cases h;exact ⟨hj,1,Sf.sign av hc,by omega⟩
   ·split at h
    ·cases h
    ·rename_i Az hx
     have h0:Sf ts Az 0:=by
      split at hx
      ·cases hx;exact .nil _
      ·exact (Sf.aV av hx).le (aO _)
     split at h
     ·cases h
     ·rename_i a xZ hy;obtain ⟨I,n,M,h3⟩:=ih (.expr d) Az a xZ (h0.ok ho) trivial hy;have h4:=h0.trans M;obtain ⟨k1,m,k2,k3⟩:=z7 _ (acc++[a]) xZ l r (h4.ok ho) (hj.snoc I) h;refine ⟨k1,_,h4.trans k2,?_⟩;simp only [xA,jE,az] at *;omega
theorem zB {e:Int} {d:Nat} {ts r:List Tok} {t:T} (ho:tP ts) (h:expr e d ts=.ok (t,r)):EF t/\Sf ts r (aJ t):=by
 obtain ⟨I,n,M,h3⟩:=(V9 e _).1 (.expr d) ts t r ho trivial h;exact ⟨I,M.le (by simpa [xA] using h3)⟩
theorem yv {e:Int} {d:Nat} {a b:ae} {ts r:List Tok} {t:T} (ha:a≠[]) (hb:b≠[]) (ho:tP ts) (h:inner e d a b ts=.ok (t,r)):EF t/\Sf ts r (aJ t+2):=by
 unfold inner at h;split at h
 ·cases h
 ·rename_i Az I;have k1:=Sf.aV ha I;split at h
  ·cases h
  ·rename_i t' xZ M;obtain ⟨k2,k3⟩:=zB (k1.ok ho) M;split at h
   ·cases h
   ·rename_i ts3 h3;cases h;exact ⟨k2,((k1.trans k3).trans (Sf.aV hb h3)).le aq⟩
theorem DJ {e:Int} {d:Nat} {ts r:List Tok} {s:ae} {t:T} (ho:tP ts) (h:mF e d ts=.ok ((s,t),r)):bs s=true/\EF t/\Sf ts r (aJ t+3):=by
 unfold mF at h;split at h
 ·cases h
 ·rename_i s' Az I;obtain ⟨k1,k2⟩:=Sf.name I ho;split at h
  ·cases h
  ·rename_i t' xZ M;cases h;obtain ⟨k3,k4⟩:=yv av av (k1.ok ho) M;exact ⟨k2,k3,(k1.trans k4).le aq⟩
def SF (t:T):Prop:=∃ a:S,a.ok=true/\er t=a.tree
def NX (l:List T):Prop:=∃ es:List S,S.df es=true/\aU l=S.trees es
def BF (t:T):Prop:=∃ l:List S,S.df l=true/\er t=bY l
theorem NX.snoc {l:List T} {t:T} (h:NX l) (k:SF t):NX (l++[t]):=by
 obtain ⟨es,I,M⟩:=h;obtain ⟨a,h3,h4⟩:=k
 have key:∀ es:List S,S.df es=true->S.df (es++[a])=true/\S.trees (es++[a])=S.trees es++[a.tree]:=by
  intro es
  induction es with
  | nil=>intro _;simp [S.df,S.trees,h3]
  | cons b es ih =>
   intro h;simp only [S.df,aH] at h;obtain ⟨k1,k2⟩:=ih h.2;simp only [cons_append,S.df,S.trees,k1,k2,h.1];simp
 exact zdV
theorem S8 {t:T} (h:EF t) (hk:t.n.kind=3):∃ (s:ae) (a:T),t.kids=[a]/\t.n.s=s/\bs s=true/\EF a:=by
 obtain ⟨a,I,M⟩:=h;have h3:=congrArg (fun x=>x.n.kind) M;simp only [zz,hk] at h3
 cases a with
 | at_ s b =>
  simp only [E.ok,aH] at I
  have h4:t.n.s=s:=by have:=congrArg (fun x=>x.n.s) M;simp only [zz] at this;exact this
  have h5:aU t.kids=[b.tree]:=by rw [<-Vt,M];rfl
  match hl:t.kids,h5 with
  | [x],h5 =>
   rw [aU,aU] at h5
   injection h5 with h6
   exact ⟨s,x,rfl,h4,I.1,b,I.2,h6⟩
  | [],h5=>rw [aU] at h5;cases h5
  | x::y::r,h5=>rw [aU,aU] at h5;injection h5 with h6 h7;cases h7
 | num n=>exact zeQ
 | name n=>exact zeQ
 | call s l=>exact zeQ
 | un s a=>exact zeQ
 | bin s a b=>exact zeQ
theorem JU {e:Int} {d:Nat} {ts r:List Tok} {t:T} (ho:tP ts) (h:simple e d ts=.ok (t,r)):SF t/\Sf ts r (aJ t):=by
 unfold simple at h;split at h
 ·exact zfb
 ·rename_i t0 r0;split at h
  ·split at h
   ·cases h
   ·rename_i s a Az I;cases h;obtain ⟨k1,⟨a',k2,k3⟩,k4⟩:=DJ ho I;exact ⟨⟨.set s a',by simp only [S.ok,k1,k2];rfl,by rw [eG,aU,aU,k3,S.tree]⟩,k4.le zfY⟩
  ·split at h
   ·cases h
   ·rename_i a Az I;obtain ⟨k1,k2⟩:=zB ho I;split at h
    ·rename_i hc;split at h
     ·cases h
     ·rename_i v xZ M;cases h;obtain ⟨⟨v',k3,k4⟩,k5⟩:=yv av av (k2.ok ho) M;obtain ⟨s,x,k6,k7,k8,x',k9,k10⟩:=S8 k1 hc.1;have hz:=eB a;rw [k6] at hz;simp only [az] at hz;rw [k6];refine ⟨⟨.put s x' v',by simp only [S.ok,k8,k9,k3];rfl,?_⟩,(k2.trans k5).le ?_⟩
      ·rw [eG,k7];simp only [take_succ_cons,take_zero,cons_append,nil_append,aU,k10,k4,S.tree]
      ·simp only [take_succ_cons,take_zero,cons_append,nil_append,kF,az];omega
    ·split at h
     ·cases h
     ·rename_i xZ M;cases h;obtain ⟨a',k3,k4⟩:=k1;exact ⟨⟨.do_ a',by simp only [S.ok,k3],by rw [eG,aU,aU,k4,S.tree]⟩,(k2.trans (Sf.aV av M)).le zfY⟩
theorem Wc (e:Int):∀ f,(∀ d ts t r,tP ts->rs e f (.block d) ts=.ok (t,r)->BF t/\Sf ts r (aJ t))/\(∀ d ts t r,tP ts->rs e f (.stmt d) ts=.ok (t,r)->SF t/\Sf ts r (aJ t)) /\
  (∀ d acc ts l r,tP ts->NX acc->rs.body e f d acc ts=.ok (l,r)->NX l/\∃ n,Sf ts r n/\az l+1<=n+az acc):=by
 intro f
 induction f with
 | zero=>exact ⟨fun d ts t r _ h=>by simp [rs] at h,fun d ts t r _ h=>by simp [rs] at h,fun d acc ts l r _ _ h=>by simp [rs.body] at h⟩
 | succ f ih =>
  obtain ⟨ihb,ihs,ihl⟩:=ih;refine ⟨fun d ts t r ho h=>?_,fun d ts t r ho h=>?_,fun d acc ts l r ho hj h=>?_⟩
  ·rw [rs] at h;split at h
   ·cases h
   ·split at h
    ·cases h
    ·rename_i r1 I;have k1:=Sf.aV av I;split at h
     ·cases h
     ·rename_i l r2 M;cases h;obtain ⟨⟨es,k2,k3⟩,n,k4,k5⟩:=ihl _ [] r1 l r (k1.ok ho) ⟨[],rfl,rfl⟩ M;exact ⟨⟨es,k2,by rw [eG,k3,bY]⟩,(k1.trans k4).le (by simp only [kF,az] at *;omega)⟩
  ·rw [rs] at h;split at h
   ·cases h
   ·simp only at h;split at h
    ·rename_i hs;have k0:=Sf.sign av hs;split at h
     ·cases h
     ·rename_i s a Az I;cases h;obtain ⟨k1,⟨a',k2,k3⟩,k4⟩:=DJ (k0.ok ho) I;exact ⟨⟨.var s a',by simp only [S.ok,k1,k2];rfl,by rw [eG,aU,aU,k3,S.tree]⟩,(k0.trans k4).le zfY⟩
    ·split at h
     ·rename_i hs
      have k0:Sf ts ts.tail 1:=by
       rcases hs with hs | hs
       ·exact Sf.sign av hs
       ·exact Sf.sign av hs
      split at h
      ·cases h
      ·rename_i c r1 I;obtain ⟨⟨c',k1,k2⟩,k3⟩:=yv av av (k0.ok ho) I;have k4:=k0.trans k3;split at h
       ·cases h
       ·rename_i b r2 M;obtain ⟨⟨lb,k5,k6⟩,k7⟩:=ihb _ _ b r2 (k4.ok ho) M;have k8:=k4.trans k7;split at h
        ·split at h
         ·rename_i dJ;have k9:=k8.trans (Sf.sign av dJ);split at h
          ·cases h
          ·rename_i b2 r3 h3;cases h;obtain ⟨⟨lb2,j5,j6⟩,j7⟩:=ihb _ _ b2 r (k9.ok ho) h3;refine ⟨⟨.if2 c' lb lb2,by simp only [S.ok,k1,k5,j5];rfl,?_⟩,(k9.trans j7).le zfY⟩;rw [eG,aU,aU,aU,aU,k2,k6,j6,S.tree,bY,bY]
         ·cases h;refine ⟨⟨.if1 c' lb,by simp only [S.ok,k1,k5];rfl,?_⟩,k8.le zfY⟩;rw [eG,aU,aU,aU,k2,k6,S.tree,bY]
        ·cases h;refine ⟨⟨.while_ c' lb,by simp only [S.ok,k1,k5];rfl,?_⟩,k8.le zfY⟩;rw [eG,aU,aU,aU,k2,k6,S.tree,bY]
     ·split at h
      ·rename_i hs;have k0:=Sf.sign av hs;split at h
       ·cases h
       ·rename_i a Az I;obtain ⟨⟨a',k1,k2⟩,k3⟩:=zB (k0.ok ho) I;split at h
        ·cases h
        ·rename_i xZ M;cases h;exact ⟨⟨.ret a',by simp only [S.ok,k1],by rw [eG,aU,aU,k2,S.tree]⟩,((k0.trans k3).trans (Sf.aV av M)).le zfY⟩
      ·exact JU ho h
  ·rw [rs.body] at h;split at h
   ·rename_i hc;cases h;exact ⟨hj,1,Sf.sign av hc,by omega⟩
   ·split at h
    ·cases h
    ·rename_i a Az I;obtain ⟨k1,k2⟩:=ihs _ ts a Az ho I;obtain ⟨k3,m,k4,k5⟩:=ihl _ (acc++[a]) Az l r (k2.ok ho) (hj.snoc k1) h;refine ⟨k3,_,k2.trans k4,?_⟩;simp only [jE,az] at *;omega
theorem Mg {e:Int} {d:Nat} {ts r:List Tok} {t:T} (ho:tP ts) (h:block e d ts=.ok (t,r)):BF t/\Sf ts r (aJ t):=(Wc e _).1 _ ts t r ho h
end Go.Im
namespace Go.Sp
open Go.Xp
def fb (x:ae) (l:List K):Prop:=∀ pre post:ae,∃ ts,ts.map kf=l/\Tz (pre++(x++post)) pre.length ts (pre.length+x.length)
def jb (x:ae) (l:List K):Prop:=∀ pre post:ae,Sep post->∃ ts,ts.map kf=l/\Tz (pre++(x++post)) pre.length ts (pre.length+x.length)
theorem fb.s {x:ae} {l:List K} (h:fb x l):jb x l:=fun pre post _=>h pre post
theorem fb.app {x y:ae} {l m:List K} (h:fb x l) (k:fb y m):fb (x++y) (l++m):=by
 intro pre post;obtain ⟨ts,I,M⟩:=h pre (y++post);obtain ⟨us,h3,h4⟩:=k (pre++x) post;exact zbp
theorem fb.apps {x y:ae} {l m:List K} (h:fb x l) (k:jb y m):jb (x++y) (l++m):=by
 intro pre post hp;obtain ⟨ts,I,M⟩:=h pre (y++post);obtain ⟨us,h3,h4⟩:=k (pre++x) post hp;exact zbp
theorem jb.GQ {x y:ae} {l m:List K} (h:jb x l) (k:fb y m) (hs:∀ post,Sep (y++post)):fb (x++y) (l++m):=by
 intro pre post;obtain ⟨ts,I,M⟩:=h pre (y++post) (hs post);obtain ⟨us,h3,h4⟩:=k (pre++x) post;exact zbp
theorem fb.nil:fb [] []:=fun pre post=>⟨[],rfl,.nil _⟩
theorem Ap {c:UInt8} {x:ae} (h:c∈EL):∀ post,Sep (c::x++post):=fun post d hd=>by cases hd;exact h
theorem vh {pre x:ae}:(pre++x).drop pre.length=x:=drop_left
theorem Tz.one {s:ae} {a a':Nat} {c:UInt8} {t:Tok} (hc:s[a]?=some c) (hb:eD c=false) (hr:bT s a [47,42]=false) (ht:ko s a c=(t,a')) (hk:t.kind=1\/t.kind=2\/t.kind=3) (hn:t.n<=2147483647) (ha:a < a'):Tz s a [t] a' :=
 .tok hc hb hr ht hk hn ha (.nil _)
theorem Ad {c:UInt8} (h:eD c=true):fb [c] []:=by
 intro pre post;have hd:(pre++([c]++post)).drop pre.length=c::post:=vh;obtain ⟨I,_,_⟩:=oF hd;exact ⟨[],rfl,.blank I h (.nil _)⟩
theorem n7 {c:UInt8} (hm:c∈[40,41,91,93,44,59,123,125]):fb [c] [kS [c]]:=by
 intro pre post;have hd:(pre++([c]++post)).drop pre.length=c::post:=vh;obtain ⟨I,_,h4⟩:=oF hd;obtain ⟨M,h3,h5⟩:=R0 (Nat.le_of_lt h4) hd hm;exact ⟨[_],rfl,Tz.one I h3 h5 M zfL zfL zfL⟩
theorem Cy {w:ae} (hm:w∈cl):jb w [kS w]:=by
 intro pre post hp;have hd:(pre++(w++post)).drop pre.length=w++post:=vh
 have cn:w≠[]:=by rintro rfl;revert hm;decide
 obtain ⟨c,r,hw⟩:=List.exists_cons_of_ne_nil cn;have dW:=hd;rw [hw,cons_append] at dW;obtain ⟨I,_,h4⟩:=oF dW;rw [<-cons_append,<-hw] at I h4;obtain ⟨M,h3,h5⟩:=Ti (Nat.le_of_lt h4) hd hw hm hp
 have:0 < w.length:=by rw [hw];simp
 exact ⟨[_],rfl,Tz.one I h3 h5 M zfL zfL aq⟩
theorem JV {c:UInt8} (h:small c=true):eD c=false/\c≠47:=by
 simp only [small,aH] at h;have I:=og h.1;refine ⟨?_,fun h0=>?_⟩
 ·exact zfe
 ·subst h0;revert I;decide
theorem FM {s r:ae} {a:Nat} {c:UInt8} (h:s.drop a=c::r) (hc:c≠47):bT s a [47,42]=false:=by
 obtain ⟨_,_,h4⟩:=oF h;rw [wR h (Nat.le_of_lt h4)];simp only [List.isPrefixOf]
 have:((47:UInt8)==c)=false:=by rw [beq_eq_false_iff_ne];exact fun h=>hc h.symm
 rw [this,Bool.false_and]
theorem H7 {w:ae} (hw:word w=true):jb w [if words.contains w then kS w else kN w]:=by
 intro pre post hp;have hd:(pre++(w++post)).drop pre.length=w++post:=vh;simp only [word,aH,gU] at hw
 match w,hw,hd with
 | [],hw,_=>simp at hw
 | c::r,hw,hd =>
  obtain ⟨ba,hs⟩:=hw;have dW:=hd;rw [cons_append] at dW;obtain ⟨I,_,h4⟩:=oF dW;obtain ⟨h3,h5⟩:=JV hs;have ht:=TJ (Nat.le_of_lt h4) hd rfl hs ba hp.eI;refine ⟨[_],?_,Tz.one I h3 (FM dW h5) ht ?_ zfL zfL⟩
  ·simp only [List.map_cons,List.map_nil,kf,kS,kN];split <;> rfl
  ·simp only;split <;> simp
theorem lJ {w:ae} (hw:bs w=true):jb w [kN w]:=by
 simp only [bs,aH,Bool.not_eq_true'] at hw;have:=H7 hw.1.1;rw [F (by rw [hw.2];decide)] at this;exact this
theorem P8 {w:ae} (hw:w∈words):jb w [kS w]:=by
 have I:∀ w∈words,word w=true:=by decide
 have:=H7 (I w hw);rw [ab (by simpa using hw)] at this;exact this
theorem Le {n:Nat} (hn:n<=2147483647):jb (dk n) [kI n]:=by
 intro pre post hp;have hd:(pre++(dk n++post)).drop pre.length=dk n++post:=vh;obtain ⟨I,M,h3⟩:=Kg n;obtain ⟨c,r,hw⟩:=List.exists_cons_of_ne_nil h3;have dW:=hd;rw [hw,cons_append] at dW;obtain ⟨h4,_,h5⟩:=oF dW;rw [<-cons_append,<-hw] at h4 h5;have hc:eS c=true:=I c (by rw [hw];exact mem_cons_self)
 have Ft:eD c=false/\c≠47:=by
  simp only [eS,aH] at hc;have I:=og hc.1;refine ⟨?_,fun h0=>?_⟩
  ·exact zfe
  ·subst h0;revert I;decide
 have ht:=V3 (Nat.le_of_lt h5) hd hw hn hp.eS
 have:0 < (dk n).length:=by rw [hw];simp
 refine ⟨[_],rfl,Tz.one h4 Ft.1 ?_ ht zfL (by simpa using by omega) aq⟩;have Db:=dW;rw [<-cons_append,<-hw] at Db;rw [hw] at Db |-;exact FM Db Ft.2
theorem Yz {s:ae} (h:eP s=true):s∈cl:=by
 have hm:s∈levels.flatten:=by
  exact zcR
 have key:∀ s∈levels.flatten,s∈cl:=by decide
 exact key s hm
theorem Np:fb [32] []:=Ad av
theorem jb.then {x:ae} {l:List K} (h:jb x l) {c:UInt8} (hm:c∈[40,41,91,93,44,59,123,125]):fb (x++[c]) (l++[kS [c]]) :=
 h.GQ (n7 hm) (Ap (by revert hm;unfold EL;simp only [List.mem_cons,List.not_mem_nil,or_false];rintro (h | h | h | h | h | h | h | h) <;> simp [h]))
theorem jb.sp {x:ae} {l:List K} (h:jb x l):fb (x++[32]) l:=by
 have:=h.GQ Np (Ap av);rw [bO] at this;exact this
theorem jb.eq {x:ae} {l l':List K} (h:jb x l) (e:l=l'):jb x l':=e ▸ h
theorem fb.eq {x:ae} {l l':List K} (h:fb x l) (e:l=l'):fb x l':=e ▸ h
theorem Et {lv k:Nat} {x:ae} {l:List K} (h:jb x l):jb (sE lv k x) (brk lv k l):=by
 unfold sE brk;split
 ·have:=((n7 (c:=40) av).apps h).then (c:=41) av;exact this.s.eq zfL
 ·exact h
mutual
theorem qU:∀ a:E,a.ok=true->jb a.bB a.tk
 | .num n,h=>by
  simp only [E.ok,aH] at h;have I:=og h.1;have M:=og h.2;have:=Le (n:=n.toNat) aq;rw [E.bB,E.tk];rw [Int.toNat_of_nonneg I] at this;exact this
 | .name s,h=>by rw [E.bB,E.tk];exact lJ h
 | .at_ s a,h=>by
  simp only [E.ok,aH] at h;rw [E.bB,E.tk];exact ((((lJ h.1).then (c:=91) av).apps (qU a h.2)).then (c:=93) av).s.eq zfL
 | .call s l,h=>by
  simp only [E.ok,aH] at h;rw [E.bB,E.tk];exact ((((lJ h.1).then (c:=40) av).apps (Z3 l h.2)).then (c:=41) av).s.eq zfL
 | .un s a,h=>by
  simp only [E.ok,aH,Bool.or_eq_true,beq_iff_eq] at h;rw [E.bB,E.tk]
  have hs:s∈cl:=by rcases h.1 with (h | h) | h <;> (rw [h];decide)
  exact ((Cy hs).sp.apps (Et (qU a h.2))).eq zfL
 | .bin s a b,h=>by
  simp only [E.ok,aH] at h;rw [E.bB,E.tk];exact ((((Et (qU a h.1.2)).sp.apps (Cy (Yz h.1.1))).sp).apps (Et (qU b h.2))).eq zfL
theorem Z3:∀ l:List E,E.df l=true->jb (bZ (E.dz l)) (E.oD l)
 | [],_=>fb.nil.s
 | a::l,h=>by
  simp only [E.df,aH] at h;rw [E.dz,E.oD,bZ];exact UE l h.2 _ _ (qU a h.1)
theorem UE:∀ l:List E,E.df l=true->∀ x m,jb x m->jb (x++(E.dz l).flatMap fun y=>44::32::y) (m++E.sw l)
 | [],_,x,m,hx=>by rw [E.dz,E.sw];simpa using hx
 | a::l,h,x,m,hx=>by
  simp only [E.df,aH] at h;have I:=((hx.then (c:=44) av).app Np).apps (qU a h.1);have M:=UE l h.2 _ _ I;rw [E.dz,E.sw,flatMap_cons]
  have e1:x++((44::32::a.bB)++(E.dz l).flatMap fun y=>44::32::y)=(x++[44]++[32]++a.bB)++(E.dz l).flatMap fun y=>44::32::y:=by simp
  rw [e1];exact M.eq zfL
end
theorem jb.set {x:ae} {l:List K} (h:jb x l):fb (x++[32,61,32]) (l++[kS [61]]):=by
 have:=(h.sp.apps (Cy (w:=[61]) av)).sp;exact zb8
theorem wy {w:ae} (hw:w∈words):fb (w++[32]) [kS w]:=(P8 hw).sp
mutual
theorem Z4:∀ s:S,s.ok=true->fb (s.bB E.bB) s.tk
 | .set s a,h=>by
  simp only [S.ok,aH] at h;rw [S.bB,S.tk];exact (((lJ h.1).set.apps (qU a h.2)).then (c:=59) av).eq zfL
 | .put s a b,h=>by
  simp only [S.ok,aH] at h;rw [S.bB,S.tk];have I:=((((lJ h.1).then (c:=91) av).apps (qU a h.2.1)).then (c:=93) av).s.set;have M:=(I.apps (qU b h.2.2)).then (c:=59) av
  have e:s++[91]++a.bB++[93,32,61,32]++b.bB++[59]=s++[91]++a.bB++[93]++[32,61,32]++b.bB++[59]:=by simp
  rw [e];exact M.eq zfL
 | .if1 c b,h=>by
  simp only [S.ok,aH] at h;rw [S.bB,S.tk];have I:=((((wy (w:=[105,102]) av).app (n7 (c:=40) av)).apps (qU c h.1)).then (c:=41) av).s.sp;have M:=I.app (lexB b h.2)
  have e:[105,102,32,40]++c.bB++[41,32]++(S.dz E.bB [123,32] b++[125])=[105,102]++[32]++[40]++c.bB++[41]++[32]++(S.dz E.bB [123,32] b++[125]):=by simp
  rw [e];exact M.eq (by simp [eN])
 | .if2 c b b2,h=>by
  simp only [S.ok,aH] at h;rw [S.bB,S.tk];have I:=((((wy (w:=[105,102]) av).app (n7 (c:=40) av)).apps (qU c h.1)).then (c:=41) av).s.sp;have M:=I.app (lexB b h.2.1);have h3:=((M.s.sp.apps (P8 (w:=[101,108,115,101]) av)).sp).app (lexB b2 h.2.2)
  have e:[105,102,32,40]++c.bB++[41,32]++(S.dz E.bB [123,32] b++[125])++[32,101,108,115,101,32]++(S.dz E.bB [123,32] b2++[125])=[105,102]++[32]++[40]++c.bB++[41]++[32]++(S.dz E.bB [123,32] b++[125])++[32]++[101,108,115,101]++[32]++(S.dz E.bB [123,32] b2++[125]):=by simp
  rw [e];exact h3.eq (by simp [eN,fp])
 | .while_ c b,h=>by
  simp only [S.ok,aH] at h;rw [S.bB,S.tk];have I:=((((wy (w:=[119,104,105,108,101]) av).app (n7 (c:=40) av)).apps (qU c h.1)).then (c:=41) av).s.sp;have M:=I.app (lexB b h.2)
  have e:[119,104,105,108,101,32,40]++c.bB++[41,32]++(S.dz E.bB [123,32] b++[125])=[119,104,105,108,101]++[32]++[40]++c.bB++[41]++[32]++(S.dz E.bB [123,32] b++[125]):=by simp
  rw [e];exact M.eq (by simp [ei])
 | .ret a,h=>by
  simp only [S.ok] at h;rw [S.bB,S.tk];have I:=((wy (w:=[114,101,116,117,114,110]) av).apps (qU a h)).then (c:=59) av;exact I.eq (by simp [dR])
 | .do_ a,h=>by
  simp only [S.ok] at h;rw [S.bB,S.tk];exact (qU a h).then (c:=59) av
 | .var s a,h=>by
  simp only [S.ok,aH] at h;rw [S.bB,S.tk];have I:=((((wy (w:=[118,97,114]) av).apps (lJ h.1)).set).apps (qU a h.2)).then (c:=59) av;exact I.eq (by simp [ja])
theorem lexB:∀ l:List S,S.df l=true->fb (S.dz E.bB [123,32] l++[125]) (kS [123]::(S.oD l++[kS [125]]))
 | l,h=>by
  have h0:fb [123,32] [kS [123]]:=by
   have:=(n7 (c:=123) av).s.sp;exact zb8
  exact ((UF l h _ _ h0).s.then (c:=125) av).eq zfL
theorem UF:∀ l:List S,S.df l=true->∀ acc m,fb acc m->fb (S.dz E.bB acc l) (m++S.oD l)
 | [],_,acc,m,h=>by rw [S.dz,S.oD,bO];exact h
 | a::l,ho,acc,m,h=>by
  simp only [S.df,aH] at ho;rw [S.dz,S.oD];have I:=(h.app (Z4 a ho.1)).s.sp;exact (UF l ho.2 _ _ I).eq zfL
end
theorem fb.all {x:ae} {l:List K} (h:fb x l):∃ ts,ts.map kf=l/\Tz x 0 ts x.length:=by
 obtain ⟨ts,I,M⟩:=h [] [];exact ⟨ts,I,by simpa using M⟩
theorem Lc {l:List S} (h:S.df l=true):fb (fX E.bB l) (Mf l):=lexB l h
end Go.Sp
namespace Go.Im
open Go.Xp Go.Sp
def OZ (s:ae):List K:=[kS nj,kN s,kS [59]]
def J3 (a:Ar):List K:=[kS nj,kN a.name,kS [91],kI a.size,kS [93],kS [59]]
def w7:List ae->List K
 | []=>[]
 | s::r=>kS [44]::kN s::w7 r
def Is:List ae->List K
 | []=>[]
 | s::r=>kN s::w7 r
def Kq (x:Fn × List S):List K:=kS oB::kN x.1.name::kS [40]::(Is x.1.params++kS [41]::Mf x.2)
def kO (x:Fn × List S):ae:=((((([102,117,110,99,32]++x.1.name)++[40])++bZ x.1.params)++[41,32])++fX E.bB x.2)++[10]
theorem Ld:fb [59,10] [kS [59]]:=(n7 (c:=59) av).app (Ad (c:=10) av)
theorem Z7 {s:ae} (h:bs s=true):fb (g1 s) (OZ s) :=
 ((wy (w:=nj) av).apps (lJ h)).GQ Ld (Ap (c:=59) (x:=[10]) av)
theorem Z5 {a:Ar} (h:o7 a=true):fb (a1 a) (J3 a):=by
 unfold o7 at h;simp only [aH,Bool.not_eq_true',decide_eq_false_iff_not] at h;obtain ⟨⟨I,M⟩,h3⟩:=h
 have hz:pY a.size=dk a.size.toNat:=by unfold pY;rw [F M]
 have hk:kI a.size=kI ((a.size.toNat:Nat):Int):=by rw [Int.toNat_of_nonneg aq]
 have x1:=((wy (w:=nj) av).apps (lJ I)).then (c:=91) av;have x2:=x1.apps (Le (n:=a.size.toNat) aq);have x3:=x2.GQ ((n7 (c:=93) av).app Ld) (Ap (c:=93) (x:=[59,10]) av);unfold a1 J3;rw [hz,hk];exact x3
theorem P9:∀ (ps:List ae),da ps=true->∀ x m,jb x m->jb (x++ps.flatMap fun y=>44::32::y) (m++w7 ps)
 | [],_,x,m,h=>by rw [List.flatMap_nil,bO,w7,bO];exact h
 | s::r,hp,x,m,h=>by
  unfold da at hp;rw [all_cons,aH] at hp;have I:=(h.then (c:=44) av).app Np;have M:=I.apps (lJ hp.1);have h3:=P9 r hp.2 _ _ M;rw [flatMap_cons,w7];refine jb.eq (cast (congrArg (fun z=>jb z _) ?_) h3) ?_
  ·simp
  ·simp
theorem Z8 {ps:List ae} (h:da ps=true):jb (bZ ps) (Is ps):=by
 match ps,h with
 | [],_=>exact fb.nil.s
 | s::r,h =>
  unfold da at h;rw [all_cons,aH] at h;exact P9 r h.2 s [kN s] (lJ h.1)
theorem Z6 {x:Fn × List S} (I:bs x.1.name=true) (M:da x.1.params=true) (h3:S.df x.2=true):fb (kO x) (Kq x):=by
 have x1:=((wy (w:=oB) av).apps (lJ I)).then (c:=40) av;have x2:=(x1.apps (Z8 M)).GQ ((n7 (c:=41) av).app Np) (Ap (c:=41) (x:=[32]) av);have x3:=(x2.app (Lc h3)).app (Ad (c:=10) av);refine fb.eq x3 ?_;simp [Kq]
theorem AZ {α:Type} {f:α->ae} {k:α->List K}:∀ (l:List α),(∀ x∈l,fb (f x) (k x))->∀ acc m,fb acc m->fb (dU f acc l) (m++l.flatMap k)
 | [],_,acc,m,h=>by rw [dU,List.flatMap_nil,bO];exact h
 | x::l,hl,acc,m,h=>by
  rw [dU,flatMap_cons,<-de];exact AZ l (fun y hy=>hl y (cU _ hy)) _ _ (h.app (hl x mem_cons_self))
theorem Oe {inl:List ae->Nat->ae}:∀ (fns:List Fn) (l:List T) (ls:List (List S)) (acc:ae),ls.length=l.length->(∀ (i:Nat) t b,l[i]?=some t->ls[i]?=some b->oQ dC inl 0 t=fX E.bB b) ->
  dU (di dC inl) acc (fns.zip l)=dU kO acc (fns.zip ls)
 | [],l,ls,acc,_,_=>by simp [dU]
 | f::r,[],[],acc,_,_=>by simp [dU]
 | f::r,t::l,b::ls,acc,hl,h=>by
  have h0:=h 0 t b rfl rfl;rw [zip_cons_cons,zip_cons_cons,dU,dU,Oe r l ls _ zfR fun i t' b' I M=>h (i+1) t' b' zfU zf6];simp only [di,kO,h0]
 | f::r,[],b::ls,acc,hl,_=>by simp at hl
 | f::r,t::l,[],acc,hl,_=>by simp at hl
section
variable {p q:RS} {ts r rest:List Tok} {u:Tok} {s:ae}
theorem sy (h:On p (u::r)):tok p 0=u:=by rw [On.tok h];rfl
theorem Cv (h:On p (u::r)) (hk:kf u=kS s):is p 0 s=true:=by
 obtain ⟨I,M⟩:=eY hk;unfold is;rw [sy h,I,M];simp
theorem MI (h:On p (u::r)) {k:K} (hk:kf u=k) (hn:k.1=3->k.2.2≠s):is p 0 s=false:=by
 unfold is;rw [sy h];subst hk
 by_cases h3:u.kind=3
 ·have:=hn h3;simp only [kf] at this;simp [h3,this]
 ·simp [h3]
theorem vS (h:On p (u::r)) (hk:kf u=kS s):want p s=p.next:=by unfold want;rw [ab h.code,ab (Cv h hk)]
theorem Ai (h:On p (u::r)) (hk:kf u=kN s) (hl:bs s=true):bF p=p.next:=by
 obtain ⟨I,M⟩:=r9 hk;have:=n8 hl;unfold bF;rw [ab h.code,sy h,ab I,F (by rw [M];omega)]
theorem nx (h:On p (u::r)):On p.next r:=h.next.1
theorem fu (h:On p (u::r)):p.next.l=p.l/\p.next.e=p.e:=⟨h.next.2.1,h.next.2.2⟩
theorem abX (h:On p (u::r)):p.i < p.l.length:=by
 have:=congrArg List.length h.rest;rw [jy,length_cons] at this;omega
theorem YC (h:On p []):¬ p.i < p.l.length:=by
 have:=congrArg List.length h.rest;rw [jy,length_nil] at this;omega
theorem KU {acN f:Nat} {st:PS} (h:p.code≠0) (hg:1<=acN):oS acN f p st=some (p,st):=by
 obtain ⟨acN,rfl⟩:∃ g',acN=g'+1:=⟨acN - 1,by omega⟩;rw [oS,F (fun hc=>h hc.1)]
theorem AX {f:Nat} {acc:List ae} (h:p.code≠0) (hg:1<=f):qF f acc p=some (acc,p):=by
 obtain ⟨f,rfl⟩:∃ g',f=g'+1:=⟨f - 1,by omega⟩;rw [qF,F (fun hc=>h hc.1),ia h]
end
theorem abS {f:Nat} {p:RS} {st:PS} {ts rest:List Tok} {s:ae} (hp:On p (ts++rest)) (ht:ts.map kf=OZ s) (hs:bs s=true) :
  ∃ q,iW f p st=some (q,{ st with globals:=st.globals++[s] })/\cj p q (.ok rest):=by
 obtain ⟨u,r,rfl,I,ht⟩:=map_cons ht;obtain ⟨v,r,rfl,M,ht⟩:=map_cons ht;obtain ⟨w,rfl,h3⟩:=jC ht;simp only [cons_append,nil_append] at hp;have p1:=nx hp;have p2:=nx p1;have p3:=nx p2;refine ⟨p.next.next.next,?_,p3,by rw [(fu p2).1,(fu p1).1,(fu hp).1],by rw [(fu p2).2,(fu p1).2,(fu hp).2]⟩;unfold iW;rw [ab (Cv hp I),Ai p1 M hs,MI p2 h3 av,F (by rintro ⟨_,h⟩;cases h),vS p2 h3,sy p1,(r9 M).2]
theorem abQ {f:Nat} {p:RS} {st:PS} {ts rest:List Tok} {a:Ar} (hp:On p (ts++rest)) (ht:ts.map kf=J3 a) (hs:bs a.name=true) :
  ∃ q,iW f p st=some (q,{ st with arrays:=st.arrays++[a] })/\cj p q (.ok rest):=by
 obtain ⟨u,r,rfl,I,ht⟩:=map_cons ht;obtain ⟨v,r,rfl,M,ht⟩:=map_cons ht;obtain ⟨w,r,rfl,h3,ht⟩:=map_cons ht;obtain ⟨x,r,rfl,h4,ht⟩:=map_cons ht;obtain ⟨y,r,rfl,h5,ht⟩:=map_cons ht;obtain ⟨z,rfl,h6⟩:=jC ht;simp only [cons_append,nil_append] at hp;have p1:=nx hp;have p2:=nx p1;have p3:=nx p2;have p4:=nx p3;have p5:=nx p4;have p6:=nx p5;refine ⟨p.next.next.next.next.next.next,?_,p6,by rw [(fu p5).1,(fu p4).1,(fu p3).1,(fu p2).1,(fu p1).1,(fu hp).1],by rw [(fu p5).2,(fu p4).2,(fu p3).2,(fu p2).2,(fu p1).2,(fu hp).2]⟩;unfold iW;rw [ab (Cv hp I),Ai p1 M hs,ab ⟨p2.code,Cv p2 h3⟩,sy p3,ab (Su h4).1,vS p4 h5,vS p5 h6,sy p1,(r9 M).2,(Su h4).2]
theorem Uz {rest:List Tok} {u:Tok} (hu:kf u=kS [41]):∀ (ps:List ae) (f:Nat) (acc:List ae) (p:RS) (ts:List Tok),ps.length < f->acc≠[]->da ps=true->On p (ts++u::rest)->ts.map kf=w7 ps ->
  ∃ q,qF f acc p=some (acc++ps,q)/\cj p q (.ok rest)
 | [],f,acc,p,ts,hf,ha,_,hp,ht=>by
  obtain ⟨f,rfl⟩:∃ g',f=g'+1:=⟨f - 1,by omega⟩
  have:ts=[]:=by simpa [w7] using ht
  subst this;rw [nil_append] at hp;refine ⟨p.next,?_,nx hp,fu hp⟩;rw [qF,F zgL,vS hp hu,bO]
 | s::ps,f,acc,p,ts,hf,ha,hn,hp,ht=>by
  obtain ⟨f,rfl⟩:∃ g',f=g'+1:=⟨f - 1,by omega⟩;rw [w7] at ht;obtain ⟨v,r,rfl,I,ht⟩:=map_cons ht;obtain ⟨w,r,rfl,M,ht⟩:=map_cons ht;unfold da at hn;rw [all_cons,aH] at hn;simp only [cons_append] at hp;have p1:=nx hp;have p2:=nx p1
  have hal:acc.length≠0:=fun h=>ha (gC h)
  rw [length_cons] at hf
  obtain ⟨q,h3,h4⟩:=Uz hu ps f (acc++[s]) p.next.next r aq zfL hn.2 p2 ht
  refine ⟨q,?_,h4.1,by rw [h4.2.1,(fu p1).1,(fu hp).1],by rw [h4.2.2,(fu p1).2,(fu hp).2]⟩;rw [qF,ab ⟨hp.code,MI hp I av⟩,F hal,vS hp I,sy p1,(r9 M).2,Ai p1 M hn.1,h3];simp
theorem ZV {rest:List Tok} {u:Tok} (hu:kf u=kS [41]) (ps:List ae) (f:Nat) (p:RS) (ts:List Tok) (hf:ps.length < f) (hn:da ps=true) (hp:On p (ts++u::rest)) (ht:ts.map kf=Is ps) :
  ∃ q,qF f [] p=some (ps,q)/\cj p q (.ok rest):=by
 obtain ⟨f,rfl⟩:∃ g',f=g'+1:=⟨f - 1,by omega⟩
 match ps,hn,ht,hf with
 | [],_,ht,_ =>
  have:ts=[]:=by simpa [Is] using ht
  subst this;rw [nil_append] at hp;refine ⟨p.next,?_,nx hp,fu hp⟩;rw [qF,F zgL,vS hp hu]
 | s::ps,hn,ht,hf =>
  rw [Is] at ht;obtain ⟨w,r,rfl,M,ht⟩:=map_cons ht;unfold da at hn;rw [all_cons,aH] at hn;simp only [cons_append] at hp;have p2:=nx hp;rw [length_cons] at hf
  obtain ⟨q,h3,h4⟩:=Uz hu ps f ([]++[s]) p.next r aq zfL hn.2 p2 ht
  refine ⟨q,?_,h4.1,by rw [h4.2.1,(fu hp).1],by rw [h4.2.2,(fu hp).2]⟩;rw [qF,ab ⟨hp.code,MI hp M (fun h=>by cases h)⟩,ab (by rfl),sy hp,(r9 M).2,Ai hp M hn.1,h3];rfl
def fW (p:RS):Nat:=40 * p.l.length+100
theorem It:∀ ps:List ae,ps.length<=(w7 ps).length
 | []=>aO _
 | s::r=>by have:=It r;rw [w7,length_cons,length_cons,length_cons];omega
theorem V5 (ps:List ae):ps.length<=(Is ps).length:=by
 cases ps with
 | nil=>exact aO _
 | cons s r=>have:=It r;rw [Is,length_cons,length_cons];omega
theorem On.len {p:RS} {ts:List Tok} (h:Go.Sp.On p ts):ts.length<=p.l.length:=by
 rw [<-h.rest,jy];omega
theorem Yo {f:Nat} {q:RS} {ts:List Tok} (hq:Go.Sp.On q ts) (hs:u9 q.l) (hf:fW q<=f):∃ t q',iS f (.block 1) q=some (t,q')/\kx q q' t (block q.e 1 ts):=by
 obtain ⟨t,q',I,M⟩:=(is_ (ot ts)).block 1 ts q hq hs ye;have:=On.len hq;exact ⟨t,q',I f (by unfold KI ot;unfold fW at hf;omega),M⟩
theorem abR {f:Nat} {p:RS} {st:PS} {ts rest:List Tok} {x:Fn × List S} (hp:On p (ts++rest)) (hs:u9 p.l) (hf:fW p<=f) (ht:ts.map kf=Kq x) (I:bs x.1.name=true) (M:da x.1.params=true) (h3:S.df x.2=true) :
  (fA x.2 1=true->∃ q t,iW f p st=some (q,{ st with trees:=st.trees++[t],fns:=st.fns++[(x.1.name,x.1.params)] })/\er t=bY x.2/\cj p q (.ok rest)) /\
  (fA x.2 1=false->∃ q eV,iW f p st=some (q,eV)/\q.code≠0):=by
 obtain ⟨u,r,rfl,k1,ht⟩:=map_cons ht;obtain ⟨v,r,rfl,k2,ht⟩:=map_cons ht;obtain ⟨w,r,rfl,k3,ht⟩:=map_cons ht;obtain ⟨A,r,rfl,k4,ht⟩:=dQ ht;obtain ⟨y,r,rfl,k5,ht⟩:=map_cons ht;simp only [cons_append,de] at hp;have p1:=nx hp;have p2:=nx p1;have p3:=nx p2
 have hl:p.next.next.next.l=p.l:=by rw [(fu p2).1,(fu p1).1,(fu hp).1]
 have hA:x.1.params.length<=A.length:=by have:=V5 x.1.params;rw [<-k4,bV] at this;exact this
 have cW:=On.len p3;simp only [aM] at cW;rw [hl] at cW
 have XS:x.1.params.length < f:=by unfold fW at hf;omega
 obtain ⟨q,h4,h5⟩:=ZV k5 x.1.params f p.next.next.next A XS M p3 k4
 have sI:q.l=p.l:=h5.2.1.trans hl;obtain ⟨t,q',h6,h7⟩:=Yo (f:=f) h5.1 zgl zf9;obtain ⟨r1,r2⟩:=GX (e:=q.e) (d:=1) (rest:=rest) h3 ht
 have hw:iW f p st=some (q',{ st with trees:=st.trees++[t],fns:=st.fns++[(x.1.name,x.1.params)] }):=by
  unfold iW;rw [F (by rw [MI hp k1 av];decide),ab (Cv hp k1),Ai p1 k2 I,vS p2 k3,h4];simp only;rw [ab h5.1.code,h6,sy p1,(r9 k2).2]
 refine ⟨fun wY=>?_,fun wY=>?_⟩
 ·obtain ⟨t',j1,j2⟩:=r1 wY;rw [j2] at h7;obtain ⟨rfl,j3⟩:=h7;exact ⟨q',t,hw,j1,j3.1,j3.2.1.trans sI,j3.2.2.trans (h5.2.2.trans (by rw [(fu p2).2,(fu p1).2,(fu hp).2]))⟩
 ·obtain ⟨pos,j2⟩:=r2 wY;rw [j2] at h7;exact ⟨q',_,hw,cj.err h7⟩
theorem sV {acN f:Nat} {p q:RS} {st eV:PS} {u:Tok} {r:List Tok} (hp:On p (u::r)) (h:iW f p st=some (q,eV)):oS (acN+1) f p st=oS acN f q eV:=by
 rw [oS,ab ⟨hp.code,abX hp⟩,h]
theorem UC {f:Nat} {rest:List Tok}:∀ (gs:List ae) (p:RS) (st:PS) (ts:List Tok),On p (ts++rest)->ts.map kf=gs.flatMap OZ->da gs=true ->
  ∃ q,cj p q (.ok rest)/\∀ acN,oS (acN+gs.length) f p st=oS acN f q { st with globals:=st.globals++gs }
 | [],p,st,ts,hp,ht,_=>by
  have:ts=[]:=by simpa using ht
  subst this;exact ⟨p,On.self hp,fun acN=>by simp⟩
 | s::gs,p,st,ts,hp,ht,hn=>by
  rw [flatMap_cons] at ht;obtain ⟨A,B,rfl,I,M⟩:=dQ ht;unfold da at hn;rw [all_cons,aH] at hn;rw [de] at hp;obtain ⟨q,h3,h4⟩:=abS (f:=f) (st:=st) hp I hn.1;obtain ⟨q',h5,h6⟩:=UC gs q { st with globals:=st.globals++[s] } B h4.1 M hn.2;exact zcw
theorem UA {f:Nat} {rest:List Tok}:∀ (as:List Ar) (p:RS) (st:PS) (ts:List Tok),On p (ts++rest)->ts.map kf=as.flatMap J3->as.all o7=true ->
  ∃ q,cj p q (.ok rest)/\∀ acN,oS (acN+as.length) f p st=oS acN f q { st with arrays:=st.arrays++as }
 | [],p,st,ts,hp,ht,_=>by
  have:ts=[]:=by simpa using ht
  subst this;exact ⟨p,On.self hp,fun acN=>by simp⟩
 | s::gs,p,st,ts,hp,ht,hn=>by
  rw [flatMap_cons] at ht;obtain ⟨A,B,rfl,I,M⟩:=dQ ht;rw [all_cons,aH] at hn;rw [de] at hp
  have fm:bs s.name=true:=by have:=hn.1;unfold o7 at this;simp only [aH] at this;exact this.1.1
  obtain ⟨q,h3,h4⟩:=abQ (f:=f) (st:=st) hp I fm;obtain ⟨q',h5,h6⟩:=UA gs q { st with arrays:=st.arrays++[s] } B h4.1 M hn.2;exact zcw
def Zq (x:Fn × List S):Prop:=bs x.1.name=true/\da x.1.params=true/\S.df x.2=true
theorem UB {f:Nat}:∀ (xs:List (Fn × List S)) (p:RS) (st:PS) (ts:List Tok),On p ts->u9 p.l->fW p<=f->ts.map kf=xs.flatMap Kq->(∀ x∈xs,Zq x) ->
  ((xs.all fun x=>fA x.2 1)=true->∃ q l,(∀ acN,xs.length < acN->oS acN f p st=some (q,{ st with trees:=st.trees++l,fns:=st.fns++xs.map fun x=>(x.1.name,x.1.params) }))/\q.code=0/\aU l=xs.map fun x=>bY x.2) /\
  ((xs.all fun x=>fA x.2 1)=false->∃ q eV,(∀ acN,xs.length < acN->oS acN f p st=some (q,eV))/\q.code≠0)
 | [],p,st,ts,hp,_,_,ht,_=>by
  have:ts=[]:=by simpa using ht
  subst this;refine ⟨fun _=>⟨p,[],fun acN hG=>?_,hp.code,by rw [aU];rfl⟩,fun h=>by cases h⟩;obtain ⟨acN,rfl⟩:∃ g',acN=g'+1:=⟨acN - 1,by rw [length_nil] at hG;omega⟩;rw [oS,F (fun hc=>YC hp hc.2)];simp
 | x::xs,p,st,ts,hp,hs,hf,ht,hx=>by
  rw [flatMap_cons] at ht;obtain ⟨A,B,rfl,I,M⟩:=dQ ht;obtain ⟨x1,x2,x3⟩:=hx x mem_cons_self;obtain ⟨k1,k2⟩:=abR (st:=st) hp hs hf I x1 x2 x3
  have cn:∃ u r,A++B=u::r:=by obtain ⟨u,r,rfl,_,_⟩:=map_cons I;exact ⟨u,_,rfl⟩
  obtain ⟨u,r,hu⟩:=cn;rw [hu] at hp
  cases hb:fA x.2 1 with
  | false =>
   obtain ⟨q,eV,k3,k4⟩:=k2 hb;refine ⟨fun h=>(by rw [all_cons,hb] at h;cases h),fun _=>⟨q,eV,fun acN hG=>?_,k4⟩⟩;obtain ⟨acN,rfl⟩:∃ g',acN=g'+1:=⟨acN - 1,by rw [length_cons] at hG;omega⟩;rw [sV hp k3,KU k4 zgr]
  | true =>
   obtain ⟨q,t,k3,k4,k5⟩:=k1 hb;have sI:q.l=p.l:=k5.2.1;obtain ⟨j1,j2⟩:=UB (f:=f) xs q { st with trees:=st.trees++[t],fns:=st.fns++[(x.1.name,x.1.params)] } B k5.1 zgl zf9 M (fun y hy=>hx y (cU _ hy));rw [all_cons,hb,Bool.true_and];refine ⟨fun h=>?_,fun h=>?_⟩
   ·obtain ⟨q',l,j3,j4,j5⟩:=j1 h;refine ⟨q',t::l,fun acN hG=>?_,j4,by rw [aU,k4,j5];rfl⟩;obtain ⟨acN,rfl⟩:∃ g',acN=g'+1:=⟨acN - 1,by rw [length_cons] at hG;omega⟩;rw [sV hp k3,j3 acN zgr];simp
   ·obtain ⟨q',eV,j3,j4⟩:=j2 h;refine ⟨q',eV,fun acN hG=>?_,j4⟩;obtain ⟨acN,rfl⟩:∃ g',acN=g'+1:=⟨acN - 1,by rw [length_cons] at hG;omega⟩;rw [sV hp k3,j3 acN zgr]
theorem Qt (acN:List ae) (As:List Ar) (xs:List (Fn × List S)) (I:da acN=true) (M:As.all o7=true) (h3:∀ x∈xs,Zq x) :
  ∃ ts,Tz (dU kO (dU a1 (dU g1 [] acN) As) xs) 0 ts (dU kO (dU a1 (dU g1 [] acN) As) xs).length /\
  (u9 ts->∀ (e:Int) (g f:Nat),ts.length+1<=g->40 * ts.length+100<=f ->
   ((xs.all fun x=>fA x.2 1)=true->∃ q l,oS g f ⟨ts,0,e,0,0⟩ .empty=some (q,⟨l,acN,As,xs.map fun x=>(x.1.name,x.1.params)⟩)/\q.code=0/\aU l=xs.map fun x=>bY x.2) /\
   ((xs.all fun x=>fA x.2 1)=false->∃ q eV,oS g f ⟨ts,0,e,0,0⟩ .empty=some (q,eV)/\q.code≠0)):=by
 have l1:=AZ (f:=g1) (k:=OZ) acN (fun s hs=>Z7 (gU.1 I s hs)) [] [] fb.nil;have l2:=AZ (f:=a1) (k:=J3) As (fun s hs=>Z5 (gU.1 M s hs)) _ _ l1;have l3:=AZ (f:=kO) (k:=Kq) xs (fun x hx=>by obtain ⟨a,b,c⟩:=h3 x hx;exact Z6 a b c) _ _ l2;obtain ⟨ts,k1,k2⟩:=l3.all;refine ⟨ts,k2,fun hs e g f hg hf=>?_⟩;rw [nil_append] at k1;obtain ⟨A,C,rfl,k3,k4⟩:=dQ k1;obtain ⟨A,B,rfl,k5,k6⟩:=dQ k3;have Fx:On ⟨(A++B)++C,0,e,0,0⟩ (A++(B++C)):=⟨rfl,aO _,by simp,k2.kinds⟩;obtain ⟨q1,j1,j2⟩:=UC (f:=f) acN _ .empty A Fx k5 I;obtain ⟨q2,j3,j4⟩:=UA (f:=f) As q1 _ B j1.1 k6 M;have sI:q2.l=(A++B)++C:=(j1.tr j3).2.1;obtain ⟨j5,j6⟩:=UB (f:=f) xs q2 { ({ PS.empty with globals:=PS.empty.globals++acN }:PS) with arrays:=PS.empty.arrays++As } C j3.1 zgl (by unfold fW;rw [sI];exact hf) k4 h3
 have c1:acN.length<=A.length:=by
  have:=congrArg List.length k5;rw [bV] at this;rw [this];clear this k5 j1 j2 j3 j4 j5 j6 sI Fx hs k1 k2 k3 l1 l2 l3 hf hg I
  induction acN with
  | nil=>exact aD _
  | cons s acN ih=>rw [flatMap_cons,aM,length_cons];simp only [OZ,length_cons,length_nil];omega
 have c2:As.length<=B.length:=by
  have:=congrArg List.length k6;rw [bV] at this;rw [this];clear this k6 j1 j2 j3 j4 j5 j6 sI Fx hs k1 k2 k3 l1 l2 l3 hf hg M
  induction As with
  | nil=>exact aD _
  | cons s acN ih=>rw [flatMap_cons,aM,length_cons];simp only [J3,length_cons,length_nil];omega
 have c3:xs.length<=C.length:=by
  have:=congrArg List.length k4;rw [bV] at this;rw [this];clear this k4 j1 j2 j3 j4 j5 j6 sI Fx hs k1 k2 k3 l1 l2 l3 hf hg h3
  induction xs with
  | nil=>exact aD _
  | cons s acN ih=>rw [flatMap_cons,aM,length_cons];simp only [Kq,length_cons];omega
 rw [aM,aM] at hg;have oJ:∃ g',xs.length < g'/\g=g'+As.length+acN.length:=⟨g - As.length - acN.length,by omega,by omega⟩;obtain ⟨g',nw,rfl⟩:=oJ;rw [j2,j4];refine ⟨fun h=>?_,fun h=>?_⟩
 ·obtain ⟨q,l,j7,j8,j9⟩:=j5 h;exact ⟨q,l,j7 g' nw,j8,j9⟩
 ·obtain ⟨q,eV,j7,j8⟩:=j6 h;exact ⟨q,eV,j7 g' nw,j8⟩
structure DW (st:PS):Prop where
 globals:da st.globals=true
 arrays:st.arrays.all o7=true
 fns:∀ x∈st.fns,bs x.1=true/\da x.2=true
 trees:∀ t∈st.trees,BF t
 len:st.fns.length=st.trees.length
theorem BM {a b:List ae} (h:da a=true) (k:da b=true):da (a++b)=true:=by
 unfold da at *;rw [List.all_append,h,k];rfl
theorem BN {s:ae} (h:bs s=true):da [s]=true:=by
 unfold da;rw [all_cons,h];rfl
theorem Sf.len {a b:List Tok} {n:Nat} (h:Sf a b n):b.length+n<=a.length:=by
 obtain ⟨p,rfl,h⟩:=h;rw [aM];omega
theorem KS:∀ (f:Nat) (acc:List ae) (p:RS) (ts:List Tok),On p ts->tP ts->ts.length+1 < f->da acc=true ->
  ∃ l q,qF f acc p=some (l,q)/\((∃ r n,cj p q (.ok r)/\da l=true/\Sf ts r n)\/q.code≠0)
 | 0,acc,p,ts,_,_,hf,_=>by omega
 | f+1,acc,p,ts,hp,ho,hf,hn=>by
  rw [qF]
  by_cases hc:p.code=0/\is p 0 [41]=false
  ·rw [ab hc]
   have lX:(∃ r,cj p (if acc.length=0 then p else want p [44]) (.ok r)/\Sf ts r 0)\/(if acc.length=0 then p else want p [44]).code≠0:=by
    by_cases ha:acc.length=0
    ·rw [ab ha];exact .inl ⟨ts,On.self hp,.nil _⟩
    ·rw [F ha]
     rcases nM hp (s:=[44]) av with ⟨r,I,M⟩ | ⟨x,I,M⟩
     ·exact .inl ⟨r,M,(Sf.aV av I).le (aO _)⟩
     ·exact .inr (cj.err M)
   generalize (if acc.length=0 then p else want p [44])=p' at *
   rcases lX with ⟨r,I,M⟩ | I
   ·rcases vF I.1 with ⟨r2,h3,h4⟩ | ⟨x,h3,h4⟩
    ·obtain ⟨k1,k2⟩:=Sf.name h3 (M.ok ho);have hlen:=(M.trans k1).len;obtain ⟨l,q,k3,k4⟩:=KS f (acc++[(tok p' 0).s]) (bF p') r2 h4.1 ((M.trans k1).ok ho) aq (BM hn (BN k2));refine ⟨l,q,k3,?_⟩
     rcases k4 with ⟨r3,n,k5,k6,k7⟩ | k5
     ·exact .inl ⟨r3,_,(I.tr h4).tr k5,k6,(M.trans k1).trans k7⟩
     ·exact .inr k5
    ·exact ⟨_,_,AX (cj.err h4) aq,.inr (cj.err h4)⟩
   ·rw [Qg I];exact ⟨_,_,AX I aq,.inr I⟩
  ·rw [F hc]
   rcases nM hp (s:=[41]) av with ⟨r,I,M⟩ | ⟨x,I,M⟩
   ·exact ⟨acc,_,rfl,.inl ⟨r,1,M,hn,Sf.aV av I⟩⟩
   ·exact ⟨acc,_,rfl,.inr (cj.err M)⟩
theorem Yq {f:Nat} {p:RS} {st:PS} {u:Tok} {r0:List Tok} (hp:On p (u::r0)) (ho:tP (u::r0)) (hs:u9 p.l) (hf:fW p<=f) (bW:DW st) :
  ∃ q eV,iW f p st=some (q,eV)/\((∃ r n,cj p q (.ok r)/\DW eV/\Sf (u::r0) r (n+1)/\az eV.trees<=n+1+az st.trees)\/q.code≠0):=by
 have p1:=nx hp;have iI:=Sf.one u r0;unfold iW
 by_cases I:is p 0 nj=true
 ·rw [ab I]
  rcases vF p1 with ⟨r1,a1,a2⟩ | ⟨x,a1,a2⟩
  ·obtain ⟨b1,b2⟩:=Sf.name a1 (iI.ok ho);have b3:=iI.trans b1;have a3:cj p (bF p.next) (.ok r1):=(On.next hp).tr a2
   by_cases M:(bF p.next).code=0/\is (bF p.next) 0 [91]=true
   ·rw [ab M]
    have h3:sign r1 0=[91]:=by
     have:=On.is a2.1 0 (s:=[91]) av;rw [M.2] at this;simpa using this.symm
    obtain ⟨v,h4,_⟩:=vN av h3;have b4:=b3.trans (Sf.sign av h3);have p2:=a2.1;rw [h4] at p2
    have a4:cj p (bF p.next).next (.ok r1.tail):=a3.tr (On.next p2)
    have p3:=nx p2
    by_cases h5:(tok (bF p.next).next 0).kind=1
    ·rw [ab h5]
     cases hr:r1.tail with
     | nil =>
      rw [hr] at p3;have:=On.tok p3 0;rw [this] at h5;cases h5
     | cons w r3 =>
      rw [hr] at p3 a4 b4;have p4:=nx p3;have b5:=b4.trans (Sf.one w r3);have a5:=a4.tr (On.next p3);rw [sy p3] at h5;have hw:=(b4.ok ho w mem_cons_self).num h5
      rcases nM p4 (s:=[93]) av with ⟨r4,c1,c2⟩ | ⟨x,c1,c2⟩
      ·rcases nM c2.1 (s:=[59]) av with ⟨r5,d1,d2⟩ | ⟨x,d1,d2⟩
       ·refine ⟨_,_,rfl,.inl ⟨r5,0,(a5.tr c2).tr d2,⟨bW.globals,?_,bW.fns,bW.trees,bW.len⟩,((b5.trans (Sf.aV av c1)).trans (Sf.aV av d1)).le aq,by simp only;omega⟩⟩;simp only;rw [List.all_append,bW.arrays,all_cons,List.all_nil,Bool.and_true,Bool.true_and];unfold o7;rw [sy p3,b2];simp only [aH,Bool.not_eq_true',decide_eq_false_iff_not];exact ⟨⟨trivial,by omega⟩,by omega⟩
       ·exact ⟨_,_,rfl,.inr (cj.err d2)⟩
      ·refine ⟨_,_,rfl,.inr ?_⟩;rw [ia (cj.err c2)];exact cj.err c2
    ·rw [F h5];exact ⟨_,_,rfl,.inr (cj.err (On.lS p3))⟩
   ·rw [F M]
    rcases nM a2.1 (s:=[59]) av with ⟨r4,c1,c2⟩ | ⟨x,c1,c2⟩
    ·exact ⟨_,_,rfl,.inl ⟨r4,0,a3.tr c2,⟨BM bW.globals (BN b2),bW.arrays,bW.fns,bW.trees,bW.len⟩,(b3.trans (Sf.aV av c1)).le aq,by simp only;omega⟩⟩
    ·exact ⟨_,_,rfl,.inr (cj.err c2)⟩
  ·rw [F (fun h=>cj.err a2 h.1),ia (cj.err a2)];exact ⟨_,_,rfl,.inr (cj.err a2)⟩
 ·rw [F I]
  by_cases M:is p 0 oB=true
  ·rw [ab M]
   rcases vF p1 with ⟨r1,a1,a2⟩ | ⟨x,a1,a2⟩
   ·obtain ⟨b1,b2⟩:=Sf.name a1 (iI.ok ho);have b3:=iI.trans b1;have a3:cj p (bF p.next) (.ok r1):=(On.next hp).tr a2
    rcases nM a2.1 (s:=[40]) av with ⟨r2,c1,c2⟩ | ⟨x,c1,c2⟩
    ·have b4:=b3.trans (Sf.aV av c1);have a4:=a3.tr c2;have hl:=On.len c2.1;have gM:(want (bF p.next) [40]).l=p.l:=a4.2.1;obtain ⟨l,q,k1,k2⟩:=KS f [] _ r2 c2.1 (b4.ok ho) (by rw [gM] at hl;unfold fW at hf;omega) rfl;rw [k1];simp only
     rcases k2 with ⟨r3,n,k3,k4,k5⟩ | k3
     ·have a5:=a4.tr k3;have sI:q.l=p.l:=a5.2.1;rw [ab k3.1.code];obtain ⟨t,q',k6,k7⟩:=Yo (f:=f) k3.1 zgl zf9;rw [k6];simp only;have b5:=b4.trans k5
      cases hb:block q.e 1 r3 with
      | error x=>rw [hb] at k7;exact ⟨_,_,rfl,.inr (cj.err k7)⟩
      | ok y =>
       obtain ⟨t',r4⟩:=y;rw [hb] at k7;obtain ⟨rfl,k7⟩:=k7;obtain ⟨k8,k9⟩:=Mg (b5.ok ho) hb;refine ⟨_,_,rfl,.inl ⟨r4,n+aJ t+2,a5.tr k7,⟨bW.globals,bW.arrays,?_,?_,?_⟩,(b5.trans k9).le aq,?_⟩⟩
       ·intro x hx
        rcases pQ hx with hx | hx
        ·exact bW.fns x hx
        ·rw [mem_singleton] at hx;subst hx;exact ⟨b2,k4⟩
       ·intro x hx
        rcases pQ hx with hx | hx
        ·exact bW.trees x hx
        ·rw [mem_singleton] at hx;subst hx;exact k8
       ·simp only [aM,length_cons,length_nil];have:=bW.len;omega
       ·simp only [jE,az];omega
     ·rw [F k3];exact ⟨_,_,rfl,.inr k3⟩
    ·rw [AX (cj.err c2) (by unfold fW at hf;omega)];simp only;rw [F (cj.err c2)];exact ⟨_,_,rfl,.inr (cj.err c2)⟩
   ·rw [ia (cj.err a2),AX (cj.err a2) (by unfold fW at hf;omega)];simp only;rw [F (cj.err a2)];exact ⟨_,_,rfl,.inr (cj.err a2)⟩
  ·rw [F M];exact ⟨_,_,rfl,.inr (cj.err (On.lS hp))⟩
theorem KT {f:Nat}:∀ (acN:Nat) (p:RS) (st:PS) (ts:List Tok),On p ts->tP ts->u9 p.l->fW p<=f->DW st->ts.length < acN ->
  ∃ q eV,oS acN f p st=some (q,eV)/\(q.code=0->DW eV/\az eV.trees<=ts.length+az st.trees)
 | 0,p,st,ts,_,_,_,_,_,hG=>by omega
 | acN+1,p,st,ts,hp,ho,hs,hf,bW,hG=>by
  cases ts with
  | nil =>
   rw [oS,F (fun hc=>YC hp hc.2)];exact ⟨p,st,rfl,fun _=>⟨bW,by simp⟩⟩
  | cons u r0 =>
   obtain ⟨q,eV,I,M⟩:=Yq hp ho hs hf bW;rw [sV hp I];rw [length_cons] at hG
   rcases M with ⟨r,n,h3,h4,h5,h6⟩ | h3
   ·have hl:=h5.len;rw [length_cons] at hl;have sI:q.l=p.l:=h3.2.1;obtain ⟨q',st2,k1,k2⟩:=KT acN q eV r h3.1 (h5.ok ho) zgl zf9 h4 aq;exact ⟨q',st2,k1,fun hc=>by obtain ⟨k3,k4⟩:=k2 hc;exact ⟨k3,by rw [length_cons];omega⟩⟩
   ·exact ⟨q,eV,KU h3 aq,fun hc=>absurd hc h3⟩
def qL (st:PS):List Fn:=st.fns.mapIdx fun i x=>⟨x.1,x.2,((az (st.trees.take i):Nat):Int)⟩
def same (p:Src) (st:PS):Bool:=gx (fun x y=>x==y) p.globals st.globals&&(gx Bo p.arrays st.arrays&&(gx tK p.fns (qL st)&&gx mD p.nodes (bU 0 st.trees)))
structure Reads (x:ae) (ts:List Tok) (c z:Int) (q:RS) (st:PS):Prop where
 lex:oL x (x.length+1) 0 []=some (ts,c,z)
 len:ts.length<=x.length
 read:oS (ts.length+1) (40 * ts.length+100) ⟨ts,0,(x.length:Int),0,0⟩ .empty=some (q,st)
 ok:q.code=0->DW st/\az st.trees<=ts.length
theorem reads (x:ae):∃ ts c z q st,Reads x ts c z q st:=by
 obtain ⟨ts,c,z,I,M,h3,h4⟩:=tZ x (x.length+1) 0 [] (aO _) aq (fun t h=>by simp at h) .nil (fun t h=>by simp at h) (aD _);have Fx:On ⟨ts,0,(x.length:Int),0,0⟩ ts:=⟨rfl,aO _,rfl,fun t ht=>(M t ht).kinds⟩;obtain ⟨q,st,h5,h6⟩:=KT (f:=40 * ts.length+100) (ts.length+1) _ .empty ts Fx M h3 (aD _) ⟨rfl,rfl,fun x h=>zfS,fun x h=>zfS,rfl⟩ aq;exact ⟨ts,c,z,q,st,I,h4,h5,fun h=>by obtain ⟨a,b⟩:=h6 h;exact ⟨a,by simpa [PS.empty,az] using b⟩⟩
structure Forms (l:List T) (ls:List (List S)):Prop where
 len:ls.length=l.length
 at_:∀ (i:Nat) t b,l[i]?=some t->ls[i]?=some b->S.df b=true/\er t=bY b
theorem Hh:∀ (l:List T),(∀ t∈l,BF t)->∃ ls,Forms l ls
 | [],_=>⟨[],rfl,fun i t b h=>by simp at h⟩
 | t::l,h=>by
  obtain ⟨b,I,M⟩:=h t mem_cons_self
  obtain ⟨ls,h3⟩:=Hh l fun u hu=>h u (cU _ hu)
  refine ⟨b::ls,by simp [h3.len],fun i t' b' k1 k2=>?_⟩
  cases i with
  | zero=>cases k1;cases k2;exact ⟨I,M⟩
  | succ i=>exact h3.at_ i t' b' (by simpa using k1) (by simpa using k2)
theorem gD.mem {Q:Fn->T->Prop}:∀ {fns:List Fn} {a:Nat} {l:List T},gD Q fns a l->(∀ f∈fns,∃ t∈l,Q f t)/\(∀ t∈l,∃ f∈fns,Q f t)
 | [],_,[],_=>⟨fun f h=>zfS,fun f h=>zfS⟩
 | f::r,a,t::l,h=>by
  rw [gD] at h;obtain ⟨k1,k2⟩:=gD.mem h.2.2;refine ⟨fun g hg=>?_,fun u hu=>?_⟩
  ·rcases dw hg with rfl | hg
   ·exact ⟨t,mem_cons_self,h.2.1⟩
   ·obtain ⟨u,a,b⟩:=k1 g hg;exact ⟨u,cU _ a,b⟩
  ·rcases dw hu with rfl | hu
   ·exact ⟨f,mem_cons_self,h.2.1⟩
   ·obtain ⟨g,a,b⟩:=k2 u hu;exact ⟨g,cU _ a,b⟩
 | [],_,t::l,h=>by cases h
 | f::r,_,[],h=>by cases h
theorem gV.Gm {p:Src} {l:List T} (h:gV p l):∃ ls,Forms l ls:=by
 refine Hh l fun t ht=>?_
 obtain ⟨f,_,I⟩:=(gD.mem h.fns).2 t ht;exact toB I.all I.kind
theorem gV.at_ {p:Src} {l:List T} (h:gV p l):nW l:=by
 have:∀ l:List T,(∀ t∈l,dO t=true)->nW l:=by
  intro l
  induction l with
  | nil=>intro _;trivial
  | cons t l ih=>intro h;rw [nW];exact ⟨N2 t (h t mem_cons_self),ih fun u hu=>h u (cU _ hu)⟩
 refine this l fun t ht=>?_
 obtain ⟨f,_,I⟩:=(gD.mem h.fns).2 t ht;exact I.all
theorem gV.CW {p:Src} {l:List T} (h:gV p l):kM p.nodes p.fns 0 []=some (l,p.nodes.length):=by
 rw [J9 p.fns 0 [] l h.st h.fns h.at_,h.len];simp
theorem gV.k {p:Src} {l:List T} (h:gV p l):l.all iU=true:=by
 rw [gU];intro t ht;obtain ⟨f,_,I⟩:=(gD.mem h.fns).2 t ht;exact TQ t I.all
theorem OS {l:List T} {ls:List (List S)} (h:Forms l ls):aU l=ls.map bY:=by
 rw [uV];apply List.ext_getElem?;intro i;rw [aS,aS];have hl:=h.len
 cases I:l[i]? with
 | none =>
  rw [List.getElem?_eq_none_iff] at I;rw [List.getElem?_eq_none_iff.2 aq];rfl
 | some t =>
  have hi:=(bq I).1
  have M:ls[i]?=some (ls[i]'aq):=by simp [hl,hi]
  rw [M];exact congrArg some (h.at_ i t _ I M).2
theorem zip_fst {α β:Type}:∀ (a:List α) (b:List β),a.length=b.length->(a.zip b).map Prod.fst=a
 | [],[],_=>rfl
 | x::a,y::b,h=>by rw [zip_cons_cons,List.map_cons,zip_fst a b zfP]
 | [],y::b,h=>by simp at h
 | x::a,[],h=>by simp at h
theorem EW {α β:Type}:∀ (a:List α) (b:List β),a.length=b.length->(a.zip b).map Prod.snd=b
 | [],[],_=>rfl
 | x::a,y::b,h=>by rw [zip_cons_cons,List.map_cons,EW a b zfP]
 | [],y::b,h=>by simp at h
 | x::a,[],h=>by simp at h
theorem Ay (l:List T) (i:Nat):az (l.take i)=az ((aU l).take i):=by
 rw [uV,<-List.map_take,<-uV,xW]
theorem Y1 {p:Src} {l:List T} {l':List T} {ls:List (List S)} (h:gV p l) (he:aU l'=aU l):same p ⟨l',p.globals,p.arrays,p.fns.map fun x=>(x.name,x.params)⟩=true:=by
 unfold same;simp only [aH];refine ⟨sS (fun x=>by simp) _,sS (fun x=>by simp [Bo]) _,?_,?_⟩
 ·have:qL ⟨l',p.globals,p.arrays,p.fns.map fun x=>(x.name,x.params)⟩=p.fns:=by
   unfold qL;apply List.ext_getElem?;intro i;simp only [List.getElem?_mapIdx,aS]
   cases hf:p.fns[i]? with
   | none=>rfl
   | some f =>
    have hlen:=gD.len h.fns;have hi:=(bq hf).1
    have ht:l[i]?=some (l[i]'aq):=by simp [<-hlen,hi]
    have hb:=(gD.at_ h.fns i f _ hf ht).1;rw [cL,Ay,<-he,<-Ay] at hb;simp only [Option.map_some];rw [<-hb]
  rw [this];refine sS (fun x=>?_) _;simp [tK,sS]
 ·rw [dX.all h.st h.len];exact Ee _ _ 0 he.symm
theorem Yv {p:Src} {l:List T} {ls:List (List S)} (h:gV p l) (hf:Forms l ls):oK dC gQ p l=dU kO (dU a1 (dU g1 [] p.globals) p.arrays) (p.fns.zip ls):=by
 unfold oK
 refine Oe _ _ _ _ hf.len fun i t b I M=>?_
 obtain ⟨h3,h4⟩:=hf.at_ i t b I M;rw [<-N8,h4];exact xe b h3 0
theorem Nr {p:Src} {l:List T} {ls:List (List S)} (h:gV p l) (hf:Forms l ls) {ts:List Tok} {c z:Int} {q:RS} {st:PS} (hr:Reads (oK dC gQ p l) ts c z q st) :
  c=0/\((ls.all fun b=>fA b 1)=true->q.code=0/\az st.trees<=800/\same p st=true)/\((ls.all fun b=>fA b 1)=false->q.code≠0):=by
 have hx:=Yv h hf;have hlen:=gD.len h.fns;have nB:=hf.len
 have rv:∀ x∈p.fns.zip ls,Zq x:=by
  intro x hx;obtain ⟨f,b⟩:=x;obtain ⟨i,hi⟩:=List.getElem?_of_mem hx;rw [List.getElem?_zip_eq_some] at hi;have uA:=(bq hi.2).1
  have ht:l[i]?=some (l[i]'aq):=by simp [<-nB,uA]
  have I:=(gD.at_ h.fns i f _ hi.1 ht).2;exact ⟨I.name,I.params,(hf.at_ i _ b ht hi.2).1⟩
 obtain ⟨us,I,M⟩:=Qt p.globals p.arrays (p.fns.zip ls) h.globals h.arrays rv;rw [<-hx] at I;have h3:=VU I rfl ((oK dC gQ p l).length+1) [] aq;rw [nil_append,hr.lex] at h3;simp only [Option.some.injEq,Prod.mk.injEq] at h3;obtain ⟨rfl,rfl,rfl⟩:=h3
 have abK:u9 ts:=by
  obtain ⟨kg,c',z',k1,k2,k3,k4⟩:=tZ (oK dC gQ p l) ((oK dC gQ p l).length+1) 0 [] (aO _) aq (fun t h=>by simp at h) .nil (fun t h=>by simp at h) (aD _);rw [hr.lex] at k1;cases k1;exact k3
 obtain ⟨h4,h5⟩:=M abK ((oK dC gQ p l).length:Int) (ts.length+1) (40 * ts.length+100) (aD _) (aD _)
 have ba:((p.fns.zip ls).all fun x=>fA x.2 1)=ls.all fun b=>fA b 1:=by
  have:ls=(p.fns.zip ls).map Prod.snd:=(EW _ _ aq).symm
  conv=>rhs;rw [this]
  rw [List.all_map];rfl
 rw [ba] at h4 h5;refine ⟨rfl,fun wY=>?_,fun wY=>?_⟩
 ·obtain ⟨q',l',k1,k2,k3⟩:=h4 wY;rw [hr.read] at k1;simp only [Option.some.injEq,Prod.mk.injEq] at k1;obtain ⟨rfl,rfl⟩:=k1
  have e1:((p.fns.zip ls).map fun x=>bY x.2)=ls.map bY:=by
   have:ls=(p.fns.zip ls).map Prod.snd:=(EW _ _ aq).symm
   conv=>rhs;rw [this]
   rw [map_map];rfl
  have e2:((p.fns.zip ls).map fun x=>(x.1.name,x.1.params))=p.fns.map fun x=>(x.name,x.params):=by
   have:p.fns=(p.fns.zip ls).map Prod.fst:=(zip_fst _ _ aq).symm
   conv=>rhs;rw [this]
   rw [map_map];rfl
  have he:aU l'=aU l:=by rw [k3,e1,OS hf]
  refine ⟨k2,?_,?_⟩
  ·simp only;rw [<-xW,he,xW,h.len];exact h.few
  ·rw [e2];exact Y1 (ls:=ls) h he
 ·obtain ⟨q',eV,k1,k2⟩:=h5 wY;rw [hr.read] at k1;simp only [Option.some.injEq,Prod.mk.injEq] at k1;obtain ⟨rfl,rfl⟩:=k1;exact k2
theorem Kl {α:Type} {p:α->α->Bool} {a b:List α} (h:gx p a b=true) {x:α} (hx:x∈a):∃ y∈b,p x y=true:=by
 obtain ⟨i,hi⟩:=List.getElem?_of_mem hx;have hl:=AN h;have aj:=(bq hi).1
 have hb:b[i]?=some (b[i]'aq):=by simp [<-hl,aj]
 exact ⟨_,br hb,G4 hi hb h⟩
theorem Ng {p:Src} {l:List T} (hn:p.nodes.length<=800) (hb:kM p.nodes p.fns 0 []=some (l,p.nodes.length)) {st:PS} (fo:DW st) (hs:same p st=true):gV p l:=by
 obtain ⟨l',I,M,h3,h4,h5⟩:=D3 _ _ _ _ _ hb;rw [nil_append] at I;subst I;unfold same at hs;simp only [aH] at hs;obtain ⟨s1,s2,s3,s4⟩:=hs
 have hz:az l=p.nodes.length:=by omega
 have X6:=dX.all M hz;rw [X6] at s4
 have hlen:l.length=st.trees.length:=by
  have a1:=gD.len h3;have a2:=AN s3;unfold qL at a2;rw [List.length_mapIdx] at a2;have:=fo.len;omega
 have he:=Wi hlen s4
 have kc:∀ f∈p.fns,bs f.name=true/\da f.params=true:=by
  intro f hf;obtain ⟨g,hg,hp⟩:=Kl s3 hf;unfold qL at hg;obtain ⟨i,hi⟩:=List.getElem?_of_mem hg;rw [List.getElem?_mapIdx] at hi
  cases hx:st.fns[i]? with
  | none=>rw [hx] at hi;cases hi
  | some x =>
   rw [hx] at hi;cases hi;simp only [tK,aH,beq_iff_eq] at hp;obtain ⟨⟨k1,k2⟩,_⟩:=hp;obtain ⟨k3,k4⟩:=fo.fns x (br hx);rw [k1,AM k2];exact ⟨k3,k4⟩
 have htr:∀ t∈l,t.n.kind=14/\dO t=true:=by
  intro t ht
  have h6:er t∈aU l:=by rw [uV];exact List.mem_map_of_mem ht
  rw [he,uV] at h6;obtain ⟨u,hu,h7⟩:=oX.1 h6;obtain ⟨b,k1,k2⟩:=fo.trees u hu;rw [h7] at k2
  have wj:zr t:=by
   have:∀ l:List T,nW l->t∈l->zr t:=by
    intro l
    induction l with
    | nil=>intro _ h;cases h
    | cons v l ih =>
     intro h hm;rw [nW] at h
     rcases dw hm with rfl | hm
     ·exact h.1
     ·exact ih h.2 hm
   exact this l h5 ht
  refine ⟨?_,N3 t (by rw [k2];exact S.xf b k1) wj⟩;have:=congrArg (fun x=>x.n.kind) k2;simp only [zz] at this;exact this
 refine ⟨?_,?_,M,gD.mono h3 fun f t hf ht _=>⟨(kc f hf).1,(kc f hf).2,(htr t ht).1,(htr t ht).2⟩,hz,hn⟩
 ·rw [AM s1];exact fo.globals
 ·rw [gU];intro a ha;obtain ⟨b,hb,hp⟩:=Kl s2 ha;have h6:=gU.1 fo.arrays b hb;simp only [Bo,aH,beq_iff_eq] at hp;unfold o7 at h6 |-;rw [hp.1,hp.2];exact h6
def bj {α:Type} (f:α->Nat):List α->Nat
 | []=>0
 | x::l=>f x+bj f l
theorem tl {α:Type} (f:α->Nat) (a b:List α):bj f (a++b)=bj f a+bj f b:=by
 induction a with
 | nil=>simp [bj]
 | cons x a ih=>simp only [cons_append,bj,ih];omega
theorem Wq {α:Type} {f g:α->Nat} {l:List α} (h:∀ x∈l,f x<=g x):bj f l<=bj g l:=by
 induction l with
 | nil=>exact aD _
 | cons x l ih =>
  have I:=h x mem_cons_self
  have M:=ih fun y hy=>h y (cU _ hy)
  simp only [bj];omega
theorem pH {α:Type} {f:α->Nat} {l:List α} {x:α} (h:x∈l):f x<=bj f l:=by
 induction l with
 | nil=>cases h
 | cons y l ih =>
  rw [bj]
  rcases dw h with rfl | h
  ·omega
  ·have:=ih h;omega
theorem oa {α:Type} {f g:α->Nat} {k:Nat} {l:List α} (h:∀ x∈l,f x<=k * g x):bj f l<=k * bj g l:=by
 induction l with
 | nil=>exact aO _
 | cons x l ih =>
  have I:=h x mem_cons_self
  have M:=ih fun y hy=>h y (cU _ hy)
  simp only [bj,Nat.mul_add];omega
theorem vO {α:Type} (f:α->Nat) (l:List α) (h:∀ x∈l,1<=f x):l.length<=bj f l:=by
 induction l with
 | nil=>exact aO _
 | cons x l ih =>
  have I:=h x mem_cons_self
  have M:=ih fun y hy=>h y (cU _ hy)
  rw [bj,length_cons];omega
theorem IY {α β:Type} (f:α->Nat) (g:β->Nat):∀ (a:List α) (b:List β),bj (fun x:α × β=>f x.1+g x.2) (a.zip b)<=bj f a+bj g b
 | [],b=>by simp [bj]
 | x::a,[]=>by simp [bj]
 | x::a,y::b=>by
  have:=IY f g a b;simp only [zip_cons_cons,bj] at *;omega
theorem yg {α:Type} (f:α->ae):∀ (l:List α) (acc:ae),(dU f acc l).length=acc.length+bj (fun x=>(f x).length) l
 | [],acc=>by simp [dU,bj]
 | x::l,acc=>by rw [dU,yg f l,aM,bj];omega
def uL (n:Nd):Nat:=n.s.length+60
mutual
theorem Zp:∀ (t:T) (a:Nat),lP t=bj uL (gL a t)
 | .mk n l,a=>by rw [lP,gL,bj,Be l (a+1),uL]
theorem Be:∀ (l:List T) (a:Nat),iC l=bj uL (bU a l)
 | [],a=>rfl
 | t::r,a=>by rw [iC,bU,tl,Zp t a,Be r (a+aJ t)]
end
def wi (l:List T) (i:Nat):Nat:=match l[i]? with | some t=>lP t | none=>0
theorem ab7 (l:List T):wi l 0+wi l 1+wi l 2<=iC l:=by
 match l with
 | []=>simp [wi]
 | [a]=>simp only [wi,iC];simp
 | [a,b]=>simp only [wi,iC];simp
 | a::b::c::r=>simp only [wi,iC];simp;omega
theorem Kw {l:List T} {f:T->ae} (h:∀ t∈l,(f t).length<=lP t) (i:Nat):((l.map f).getD i []).length<=wi l i:=by
 rw [List.getD_eq_getElem?_getD,aS];unfold wi
 cases hi:l[i]? with
 | none=>simp
 | some t=>exact h t (br hi)
theorem LL {l:List T} {t:T} (h:t∈l):aJ t<=az l:=by
 induction l with
 | nil=>cases h
 | cons a l ih =>
  rw [az]
  rcases dw h with rfl | h
  ·omega
  ·have:=ih h;omega
theorem LJ {f:T->ae}:∀ {l:List T},(∀ t∈l,(f t).length+4<=lP t)->l8 (l.map f)<=iC l
 | [],_=>aO _
 | t::l,h=>by
  have I:=h t mem_cons_self
  have M:=LJ (l:=l) fun y hy=>h y (cU _ hy)
  rw [List.map_cons,l8,iC];omega
theorem Y9:∀ (N:Nat) (t:T),aJ t<=N->si t->∀ d,(lM dC gQ d t).length+4<=lP t/\(oQ dC gQ d t).length<=lP t:=by
 intro N
 induction N with
 | zero=>intro t h;exact zcN
 | succ N ih =>
  intro t hN hn d;have cX:=eB t;rw [tf] at hn
  have hk:∀ a∈t.kids,∀ d,(lM dC gQ d a).length+4<=lP a/\(oQ dC gQ d a).length<=lP a:=fun a ha d=>ih a (by have:=LL ha;omega) (lq hn.2 ha) d
  have hx:=Kw (l:=t.kids) (f:=dC) (fun a ha=>by have:=xY (aJ a) a (aD _) (lq hn.2 ha);omega);have hb:=Kw (l:=t.kids) (f:=oQ dC gQ d) (fun a ha=>(hk a ha d).2);have h3:=ab7 t.kids;have hw:=qK t;have gq:=xY (aJ t) t (aD _) ((tf t).2 hn);have x0:=hx 0;have x1:=hx 1;have b1:=hb 1;have b2:=hb 2;constructor
  ·rw [QL,J8];unfold zk;split
   ·exact zar
   split
   ·exact zar
   split
   ·exact zar
   split
   ·split
    ·exact zar
    ·exact zar
   split
   ·exact zar
   split
   ·exact zar
   split
   ·exact zar
   ·omega
  ·rw [N7,LH]
   have:=LJ (f:=lM dC gQ (d+1)) (l:=t.kids) fun a ha=>(hk a ha (d+1)).1
   have e:∀ l:List ae,(gQ l d).length=3+l8 l:=fun l=>by
    unfold gQ;rw [aM,vg];simp only [length_cons,length_nil];omega
   rw [e];omega
def wS (l:List ae):Nat:=bj (fun s=>s.length+1) l
def eo (p:Src):Nat:=wS p.globals+bj (fun a:Ar=>a.name.length+1) p.arrays+bj (fun f:Fn=>f.name.length+wS f.params+1) p.fns+bj (fun n:Nd=>n.s.length+n.kids.length+1) p.nodes
structure u7 (p:Src):Prop where
 arrays:∀ a∈p.arrays,-9223372036854775808<=a.size/\a.size<=9223372036854775807
 nodes:∀ n∈p.nodes,-9223372036854775808<=n.n/\n.n<=9223372036854775807
mutual
theorem eC.num {nodes:List Nd} (h:∀ n∈nodes,-9223372036854775808<=n.n/\n.n<=9223372036854775807):∀ (t:T) (a:Nat),eC nodes a t->si t
 | .mk n l,a,hs=>by
  rw [eC] at hs;rw [si];exact ⟨h n (br hs.1),dX.num h l _ hs.2.2⟩
theorem dX.num {nodes:List Nd} (h:∀ n∈nodes,-9223372036854775808<=n.n/\n.n<=9223372036854775807):∀ (l:List T) (a:Nat),dX nodes a l->sj l
 | [],a,_=>trivial
 | t::r,a,hs=>by
  rw [dX] at hs;rw [sj];exact ⟨eC.num h t a hs.1,dX.num h r _ hs.2⟩
end
theorem To (l:List ae):(l.map fun y=>y.length+2).sum=bj (fun s=>s.length+2) l:=by
 induction l with
 | nil=>rfl
 | cons s l ih=>rw [List.map_cons,sum_cons,ih,bj]
theorem Jb (l:List T):iC l=bj lP l:=by
 induction l with
 | nil=>rfl
 | cons t l ih=>rw [iC,bj,ih]
theorem VO {p:Src} {l:List T} (hn:u7 p) (hs:dX p.nodes 0 l) (hz:az l=p.nodes.length):(oK dC gQ p l).length<=100 * eo p:=by
 have jP:=dX.num hn.nodes l 0 hs
 have e1:bj (fun s=>(g1 s).length) p.globals<=100 * wS p.globals:=oa fun s _=>by simp only [g1,aM,length_cons,length_nil];omega
 have e2:bj (fun a=>(a1 a).length) p.arrays<=100 * bj (fun a:Ar=>a.name.length+1) p.arrays:=oa fun a ha=>by
  have:=z8 (hn.arrays a ha);simp only [a1,aM,length_cons,length_nil];omega
 have e3:bj (fun x=>(di dC gQ x).length) (p.fns.zip l)<=bj (fun x:Fn × T=>(fun f:Fn=>100 * (f.name.length+wS f.params+1)) x.1+lP x.2) (p.fns.zip l):=Wq fun x hx=>by
  have I:=(Y9 (aJ x.2) x.2 (aD _) (lq jP (List.of_mem_zip hx).2) 0).2;have M:=Cw x.1.params;rw [To] at M
  have h3:bj (fun s=>s.length+2) x.1.params<=2 * wS x.1.params:=oa fun s _=>by omega
  simp only [di,aM,length_cons,length_nil];omega
 have e4:=IY (fun f:Fn=>100 * (f.name.length+wS f.params+1)) lP p.fns l
 have e5:bj (fun f:Fn=>100 * (f.name.length+wS f.params+1)) p.fns<=100 * bj (fun f:Fn=>f.name.length+wS f.params+1) p.fns:=oa fun f _=>aD _
 have e6:bj uL p.nodes<=100 * bj (fun n:Nd=>n.s.length+n.kids.length+1) p.nodes:=oa fun n _=>by unfold uL;omega
 have e7:bj lP l=bj uL p.nodes:=by rw [<-Jb,Be l 0,<-dX.all hs hz]
 unfold oK eo;rw [yg,yg,yg];simp only [length_nil];have e8:=jO e3 e4;generalize bj (fun x=>(di dC gQ x).length) (p.fns.zip l)=v3 at *;generalize bj (fun s=>(g1 s).length) p.globals=v1 at *;generalize bj (fun a=>(a1 a).length) p.arrays=v2 at *;omega
theorem I5 {p:Src} {l:List T} (hs:dX p.nodes 0 l) (hz:az l=p.nodes.length):∀ t∈l,lP t<=100 * eo p/\aJ t<=eo p:=fun t ht=>by
 have e6:bj uL p.nodes<=100 * bj (fun n:Nd=>n.s.length+n.kids.length+1) p.nodes:=oa fun n _=>by unfold uL;omega
 have e7:bj lP l=bj uL p.nodes:=by rw [<-Jb,Be l 0,<-dX.all hs hz]
 have e8:=pH (f:=lP) ht;have e9:=LL ht
 have e10:=vO (fun n:Nd=>n.s.length+n.kids.length+1) p.nodes fun n _=>by omega
 unfold eo;omega
theorem DP (l:List ae):l.length<=wS l:=vO _ l fun s _=>by omega
theorem Q2 {l:List ae} {s:ae} (h:s∈l):s.length+1<=wS l:=pH (f:=fun s:ae=>s.length+1) h
structure Small (p:Src) (n:Nat):Prop where
 globals:p.globals.length<=n/\∀ s∈p.globals,s.length<=n
 arrays:p.arrays.length<=n/\∀ a∈p.arrays,a.name.length<=n
 fns:p.fns.length<=n/\∀ f∈p.fns,f.name.length<=n/\f.params.length<=n/\∀ s∈f.params,s.length<=n
 nodes:p.nodes.length<=n/\∀ x∈p.nodes,x.s.length<=n/\x.kids.length<=n
theorem jD (p:Src):Small p (eo p):=by
 have a1:=DP p.globals
 have a2:=vO (fun a:Ar=>a.name.length+1) p.arrays fun a _=>by omega
 have a3:=vO (fun f:Fn=>f.name.length+wS f.params+1) p.fns fun a _=>by omega
 have a4:=vO (fun n:Nd=>n.s.length+n.kids.length+1) p.nodes fun a _=>by omega
 unfold eo;refine ⟨⟨by omega,fun s hs=>?_⟩,⟨by omega,fun a ha=>?_⟩,⟨by omega,fun f hf=>?_⟩,⟨by omega,fun n hn=>?_⟩⟩
 ·have:=Q2 hs;omega
 ·have:=pH (f:=fun a:Ar=>a.name.length+1) ha;omega
 ·have:=pH (f:=fun f:Fn=>f.name.length+wS f.params+1) hf;refine ⟨by omega,by have:=DP f.params;omega,fun s hs=>by have:=Q2 hs;omega⟩
 ·have:=pH (f:=fun n:Nd=>n.s.length+n.kids.length+1) hn;exact ⟨by omega,by omega⟩
structure B5 (st:PS) (n:Nat):Prop where
 globals:st.globals.length<=n
 arrays:st.arrays.length<=n
 fns:st.fns.length<=n
 params:∀ x∈st.fns,x.2.length<=n
theorem PM:∀ (f:Nat) (acc:List ae) (p:RS) (l:List ae) (q:RS),qF f acc p=some (l,q)->l.length<=acc.length+f
 | 0,_,_,_,_,h=>by cases h
 | f+1,acc,p,l,q,h=>by
  rw [qF] at h;split at h
  ·have:=PM f _ _ l q h;rw [aM,length_cons,length_nil] at this;omega
  ·cases h;omega
theorem B5.up {st:PS} {n:Nat} (h:B5 st n):B5 st (n+1):=by
 obtain ⟨a,b,c,d⟩:=h;exact zel
theorem ZX {f n:Nat} {p q:RS} {st eV:PS} (hf:f<=n) (h:iW f p st=some (q,eV)) (hs:B5 st n):B5 eV (n+1):=by
 have key:=hs.up;obtain ⟨a,b,c,d⟩:=hs;unfold iW at h;split at h
 ·split at h
  ·split at h
   ·cases h;exact zds
   ·cases h;exact key
  ·cases h;exact zds
 ·split at h
  ·cases hm:qF f [] (want (bF p.next) [40]) with
   | none=>rw [hm] at h;cases h
   | some r =>
    obtain ⟨l,q1⟩:=r;rw [hm] at h;simp only at h;have hl:=PM _ _ _ _ _ hm;split at h
    ·split at h
     ·cases h
     ·cases h;refine ⟨by simp;omega,by simp;omega,by simp;omega,fun x hx=>?_⟩
      rcases pQ hx with hx | hx
      ·have:=d x hx;omega
      ·rw [mem_singleton] at hx;subst hx;simp at hl |-;omega
    ·cases h;exact key
  ·cases h;exact key
theorem PO {f:Nat}:∀ (acN n:Nat) (p q:RS) (st eV:PS),f<=n->oS acN f p st=some (q,eV)->B5 st n->B5 eV (n+acN)
 | 0,n,p,q,st,eV,_,h,_=>by cases h
 | acN+1,n,p,q,st,eV,hf,h,hs=>by
  rw [oS] at h;split at h
  ·cases hw:iW f p st with
   | none=>rw [hw] at h;cases h
   | some r =>
    obtain ⟨q1,s1⟩:=r;rw [hw] at h;simp only at h;have:=PO acN (n+1) q1 q s1 eV aq h (ZX hf hw hs);rw [show n+(acN+1)=n+1+acN by omega];exact this
  ·cases h;obtain ⟨a,b,c,d⟩:=hs;exact zel
mutual
theorem RU:∀ (t:T) (a:Nat),∀ n∈gL a t,n.kids.length<=aJ t
 | .mk m l,a,n,h=>by
  rw [gL] at h;rw [aJ]
  rcases dw h with rfl | h
  ·simp only [c6];have:=bK l;omega
  ·have:=Cg l (a+1) n h;omega
theorem Cg:∀ (l:List T) (a:Nat),∀ n∈bU a l,n.kids.length<=az l
 | [],a,n,h=>by rw [bU] at h;cases h
 | t::r,a,n,h=>by
  rw [bU] at h;rw [az]
  rcases pQ h with h | h
  ·have:=RU t a n h;omega
  ·have:=Cg r _ n h;omega
end
end Go.Im
namespace Go.Sp
open Go.Xp
structure Gy (p:Src) (ls:List (List S)):Prop where
 len:ls.length=p.fns.length
 at_:∀ (i:Nat) f l,p.fns[i]?=some f->ls[i]?=some l->0<=f.body/\S.df l=true/\wt (bY l)<=1000000000/\∃ t,sub p.nodes (fN p.nodes) f.body.toNat=some t/\er t=bY l
theorem V4 (a:E) (ho:a.ok=true):(a.bB).length+4<=wt a.tree:=(E.len a ho).1
theorem Vd {l:List S} (ho:S.df l=true) (hw:wt (bY l)<=1000000000) :
  ∃ ts t q f,Go.Sp.jV (fX E.bB l)=some ts/\(fX E.bB l).length<=1000000000/\ts.length<=1000000000/\1+f<=1099511627776/\mS f (.block 1) ⟨ts,0,(fX E.bB l).length,0,0⟩=some (t,q)/\q.l=ts/\((q.code=0/\q.i=ts.length/\fA l 1=true)\/(q.code≠0/\fA l 1=false)):=by
 have hlen:=uQ E.bB V4 ho;generalize hx:fX E.bB l=x at *;obtain ⟨ts,I,M⟩:=(Lc ho).all;rw [hx] at M;have h3:=M.len;have Fx:On ⟨ts,0,x.length,0,0⟩ ts:=⟨rfl,aO _,rfl,M.kinds⟩;have cn:rs (x.length:Int) (ot ts) (.block 1) ts≠.error bf:=ye;obtain ⟨t,q,h4,h5⟩:=(js (ot ts)).block 1 ts _ Fx cn;have Py:=GX (e:=(x.length:Int)) (d:=1) (rest:=[]) ho I;rw [bO] at Py
 change kx _ q t (block (x.length:Int) 1 ts) at h5
 refine ⟨ts,t,q,KF (ot ts),M.all,by omega,by omega,by unfold KF ot;omega,h4 _ (aD _),?_⟩
 cases hf:fA l 1 with
 | true =>
  obtain ⟨t',_,h6⟩:=Py.1 hf;rw [h6] at h5;obtain ⟨_,h7,h8,_⟩:=h5;have h8:q.l=ts:=h8;refine ⟨h8,.inl ⟨h7.code,?_,rfl⟩⟩;have hr:=congrArg List.length h7.rest;have hle:=h7.le;rw [jy] at hr;rw [h8] at hr hle;simp only [length_nil] at hr;omega
 | false =>
  obtain ⟨pos,h6⟩:=Py.2 hf;rw [h6] at h5;exact ⟨h5.2.2.2.1,.inr ⟨cj.err h5,rfl⟩⟩
end Go.Sp
namespace Go.Im
open Go.Xp Go.Sp
def Nf (p:Src) (x:ae):Bool:=match oL x (x.length+1) 0 [] with
 | none=>false
 | some (ts,c,z)=>if c≠0 then false else match oS (ts.length+1) (40 * ts.length+100) ⟨ts,0,(x.length:Int),0,0⟩ .empty with
  | none=>false
  | some (q,st)=>if q.code≠0 then false else if az st.trees > 800 then false else same p st
def fI (p:Src):Bool:=if p.nodes.length > 800 then false else match kM p.nodes p.fns 0 [] with
 | none=>false
 | some (l,e)=>if e≠p.nodes.length then false else if l.all iU=false then false else Nf p (oK dC gQ p l)
theorem CI {p:Src} {x:ae} {ts:List Tok} {c z:Int} {q:RS} {st:PS} (h:Reads x ts c z q st):Nf p x=if c≠0 then false else if q.code≠0 then false else if az st.trees > 800 then false else same p st:=by
 unfold Nf;rw [h.lex];simp only;rw [h.read]
theorem aaM {p:Src} {l:List T} {ls:List (List S)} (h:gV p l) (hf:Forms l ls):fI p=ls.all fun b=>fA b 1:=by
 unfold fI;have h8:=h.few;rw [F aq,h.CW];simp only;rw [F zfL,F (by rw [h.k];decide)];obtain ⟨ts,c,z,q,st,hr⟩:=reads (oK dC gQ p l);obtain ⟨I,M,h3⟩:=Nr h hf hr;rw [CI hr,F zfU]
 cases hb:ls.all fun b=>fA b 1 with
 | false=>rw [ab (h3 hb)]
 | true =>
  obtain ⟨k1,k2,k3⟩:=M hb;rw [F (by simpa using k1),F aq,k3]
theorem we {p:Src} (h:fI p=true):∃ l,gV p l:=by
 unfold fI at h
 by_cases h8:p.nodes.length > 800
 ·rw [ab h8] at h;cases h
 rw [F h8] at h
 cases hb:kM p.nodes p.fns 0 [] with
 | none=>exact za5
 | some y =>
  obtain ⟨l,e⟩:=y;rw [hb] at h;simp only at h
  by_cases he:e=p.nodes.length
  ·subst he;rw [F zfL] at h
   by_cases hk:l.all iU=false
   ·rw [ab hk] at h;cases h
   rw [F hk] at h;obtain ⟨ts,c,z,q,st,hr⟩:=reads (oK dC gQ p l);rw [CI hr] at h;split at h
   ·cases h
   split at h
   ·cases h
   ·rename_i hc;split at h
    ·cases h
    ·exact ⟨l,Ng aq hb (hr.ok zf7).1 h⟩
  ·rw [ab he] at h;cases h
theorem aaL {p:Src} (h:p8 p=some false):fI p=false:=by
 cases hf:fI p with
 | false=>rfl
 | true =>
  obtain ⟨l,I⟩:=we hf;rw [I.p8] at h;cases h
theorem dX.ix {nodes:List Nd}:∀ (l:List T) (a i:Nat) (t:T),dX nodes a l->l[i]?=some t->eC nodes (a+az (l.take i)) t
 | [],a,i,t,_,h=>by simp at h
 | u::r,a,0,t,h,hi=>by
  cases hi;rw [dX] at h;exact h.1
 | u::r,a,i+1,t,h,hi=>by
  rw [dX] at h;have:=dX.ix r (a+aJ u) i t h.2 (by simpa using hi);rw [take_succ_cons,az,<-gn];exact this
mutual
theorem Rl:∀ t:T,wt t<=lP t
 | .mk n l=>by have:=Jc l;rw [wt,lP];omega
theorem Jc:∀ l:List T,fL l<=iC l
 | []=>aD _
 | t::r=>by have:=Rl t;have:=Jc r;rw [fL,iC];omega
end
theorem N9 {p:Src} {l:List T} {ls:List (List S)} (h:gV p l) (hf:Forms l ls) (hw:eo p<=1048576):Gy p ls:=by
 have hl:=gD.len h.fns;refine ⟨by rw [hf.len];omega,fun i f b I M=>?_⟩;have hi:=(bq M).1;have hlen:=hf.len
 have ht:l[i]?=some (l[i]'aq):=by simp [<-hlen,hi]
 obtain ⟨h3,h4⟩:=hf.at_ i _ b ht M;obtain ⟨h5,h6⟩:=gD.at_ h.fns i f _ I ht;have h7:=dX.ix l 0 i _ h.st ht;rw [cL] at h5 h7;have hm:=br ht;have h8:=I5 h.st h.len _ hm;have h9:=Rl (l[i]'aq);have nb:=eC.le _ _ h7;refine ⟨by omega,h3,by rw [<-h4,U5];omega,_,?_,h4⟩;rw [h5,lk];exact (xV _).1 _ _ h7 zgf
theorem pK {α:Type} (f:α->Nat) (l:List α) (k:Nat):bj f (l.take k)<=bj f l:=by
 have:bj f l=bj f (l.take k)+bj f (l.drop k):=by rw [<-tl,take_append_drop]
 omega
def ud (w left:Nat):Int:=if w<=left then ((left - w:Nat):Int) else -1
theorem iY {w left:Nat} (h:w<=left):ud w left=((left - w:Nat):Int):=by unfold ud;rw [ab h]
theorem eM {w left:Nat} (h:left < w):ud w left = -1:=by unfold ud;rw [F aq]
theorem pJ {α:Type} (w:α->Nat) (l:List α):bj (fun x=>w x+1) l=l.length+bj w l:=by
 induction l with
 | nil=>rfl
 | cons x l ih=>rw [bj,ih,bj,length_cons];omega
theorem pI {α:Type} {w:α->Nat} {l:List α} {k:Nat} {x:α} (h:l[k]?=some x):bj w (l.take (k+1))=bj w (l.take k)+w x:=by
 have:l.take (k+1)=l.take k++[x]:=by rw [bS,h];rfl
 rw [this,tl,bj,bj];rfl
theorem mR {α β:Type} {f:α->β} {l:List α} {k:Nat} {x:α} {Z:β} (h:l[k]?=some x):((l.take k).map f++List.replicate (l.length - k) Z).set k (f x)=(l.take (k+1)).map f++List.replicate (l.length - (k+1)) Z:=by
 have hk:=(bq h).1
 have ht:l.take (k+1)=l.take k++[x]:=by rw [bS,h];rfl
 have hl:((l.take k).map f).length=k:=by rw [bV,du];omega
 rw [show l.length - k=(l.length - (k+1))+1 by omega,List.replicate_succ,List.set_append_right _ _ aq,hl,jx,List.set_cons_zero,ht,kK];simp
theorem mQ {α β:Type} {f:α->β} {l:List α} {k:Nat} {Z:β} (h:k<=l.length):((l.take k).map f++List.replicate (l.length - k) Z).length=l.length:=by
 rw [aM,bV,du,List.length_replicate];omega
theorem mP {α β:Type} {f:α->β} {l:List α} {Z:β}:(l.take l.length).map f++List.replicate (l.length - l.length) Z=l.map f:=by
 rw [bH,jx];simp
theorem E7 {p:Src} {l:List T} (h:gV p l):∀ a∈p.arrays,0<=a.size/\a.size<=2147483647:=fun a ha=>by
 have:=gU.1 h.arrays a ha;unfold o7 at this;simp only [aH,Bool.not_eq_true',decide_eq_false_iff_not] at this;omega
end Go.Im
