/- Part 2 of proofs that are told in their last texts. -/
import Derived.Test.YtfahcenafcklmaaGreatDoorQ1
open List (all_cons cons_append drop_left find?_eq_none flatMap_cons foldl_cons getElem?_eq_none getElem?_take length_cons length_nil map_map mem_append mem_cons_self mem_singleton nil_append sum_cons tail_cons take_append_drop take_succ_cons take_zero zip_cons_cons)
set_option linter.unusedVariables false
set_option linter.unusedSimpArgs false
set_option maxRecDepth 100000
namespace Go.Xp
section
variable {e:Int} {d:Nat} {ts rest:List Tok} {Q:T->Prop} {b:Bool}
theorem S.head {s:S} (ho:s.ok=true) (ht:ts.map kf=s.tk):∃ t r,ts=t::r/\∀ rest,sign (t::rest) 0≠km/\sign (t::rest) 0≠[125]:=by
 cases s with
 | set s a =>
  exact zcl
 | put s a b =>
  exact zcl
 | if1 c b =>
  exact zau
 | if2 c b b2 =>
  exact zau
 | while_ c b =>
  exact zau
 | ret a =>
  exact zau
 | var s a =>
  exact zau
 | do_ a =>
  simp only [S.ok] at ho;obtain ⟨k0,r0,hh,hf⟩:=E.head a ho;rw [S.tk,hh] at ht;obtain ⟨t,r,rfl,I,_⟩:=map_cons ht;refine ⟨t,r,rfl,fun rest=>?_⟩
  rcases Dv (r:=rest) (by rw [I];exact hf) with h | h | h | h | h <;> (rw [h];decide)
def uW (l:List S):Prop:=∀ (e:Int) (d:Nat) (acc:List T) (ts rest:List Tok) (u:Tok),S.dT l=true->ts.map kf=S.qn l->u.kind=3->u.s=[125] ->
 (S.fits l d=true->∃ ys,bf ys=S.trees l/\Eb e d acc (ts++u::rest) (.ok (acc++ys,rest)))/\(S.fits l d=false->∃ pos,Eb e d acc (ts++u::rest) (.error (9,pos)))
theorem QV:uW []:=by
 intro e d acc ts rest u _ ht hu iP
 have:ts=[]:=by simpa [S.qn] using ht
 subst this;refine ⟨fun _=>⟨[],rfl,1,fun f hf=>?_⟩,fun h=>by simp [S.fits] at h⟩;obtain ⟨f,rfl⟩:∃ g,f=g+1:=⟨f - 1,by omega⟩;rw [rs.body,ah (by exact xk hu iP),dN];rfl
theorem OR {a:S} {l:List S} (Ca:uX a) (Cl:uW l):uW (a::l):=by
 intro e d acc ts rest u ho ht hu iP;simp only [S.dT,aK] at ho;rw [S.qn] at ht;obtain ⟨A,B,rfl,h3,h4⟩:=eu ht;obtain ⟨t,r,rfl,hh⟩:=S.head ho.1 h3
 have cj:sign (B++u::rest) 0≠km:=by
  cases l with
  | nil =>
   have:B=[]:=by simpa [S.qn] using h4
   subst this;rw [nil_append,xk hu iP];decide
  | cons a' l' =>
   simp only [S.dT,aK] at ho;rw [S.qn] at h4;obtain ⟨A',B',rfl,h5,h6⟩:=eu h4;obtain ⟨t',r',rfl,hh'⟩:=S.head ho.2.1 h5;exact (hh' _).1
 have hx:=Ca e d (t::r) (B++u::rest) ho.1 h3 cj
 have he:t::r++B++u::rest=t::r++(B++u::rest):=by simp
 have hs:sign (t::r++(B++u::rest)) 0≠[125]:=(hh _).2;rw [he,S.fits]
 cases hfa:a.fit d with
 | false =>
  refine ⟨fun hb=>zgW,fun _=>?_⟩;obtain ⟨pos,f0,h0⟩:=hx.2 hfa;refine ⟨pos,f0+1,fun f hf=>?_⟩;obtain ⟨f,rfl⟩:∃ g,f=g+1:=⟨f - 1,by omega⟩;rw [rs.body,ab hs,h0 f av]
 | true =>
  obtain ⟨ta,k1,f0,h0⟩:=hx.1 hfa;have hl:=Cl e d (acc++[ta]) B rest u ho.2 h4 hu iP;refine ⟨fun hb=>?_,fun hb=>?_⟩
  ·obtain ⟨ys,k3,ef,k4⟩:=hl.1 zgu;refine ⟨ta::ys,by rw [bf,k1,k3,S.trees],f0+ef+1,fun f hf=>?_⟩;obtain ⟨f,rfl⟩:∃ g,f=g+1:=⟨f - 1,by omega⟩;rw [rs.body,ab hs,h0 f av];simp only;rw [k4 f av,eF];rfl
  ·obtain ⟨pos,ef,k3⟩:=hl.2 zgu;refine ⟨pos,f0+ef+1,fun f hf=>?_⟩;obtain ⟨f,rfl⟩:∃ g,f=g+1:=⟨f - 1,by omega⟩;rw [rs.body,ab hs,h0 f av];exact k3 f av
theorem uW.blk {l:List S} (C:uW l) {A:List Tok} {u w:Tok} (ho:S.dT l=true) (ht:A.map kf=S.qn l) (hu:u.kind=3) (iP:u.s=[123]) (hw:w.kind=3) (Hp:w.s=[125]) :
  Sx e (.block d) (u::(A++w::rest)) rest (fun t=>er t=.mk ⟨14,0,0,[],[]⟩ (S.trees l)) (decide (d<=60)&&S.fits l (d+1)):=by
 have hb:=C e (d+1) [] A rest w ho ht hw Hp
 by_cases hd:d<=60
 ·have:(decide (d<=60)&&S.fits l (d+1))=S.fits l (d+1):=by simp [hd]
  rw [this];refine ⟨fun h=>?_,fun h=>?_⟩
  ·obtain ⟨ys,k1,f0,h0⟩:=hb.1 h;refine ⟨one 14 u.at_ [] ys,by show er _=_;rw [eW,k1],f0+1,fun f hf=>?_⟩;obtain ⟨f,rfl⟩:∃ g,f=g+1:=⟨f - 1,by omega⟩;rw [rs,ab av,uE hu iP];simp only;rw [h0 f av];rfl
  ·obtain ⟨pos,f0,h0⟩:=hb.2 h;refine ⟨pos,f0+1,fun f hf=>?_⟩;obtain ⟨f,rfl⟩:∃ g,f=g+1:=⟨f - 1,by omega⟩;rw [rs,ab av,uE hu iP];simp only;rw [h0 f av]
 ·have:(decide (d<=60)&&S.fits l (d+1))=false:=by simp [hd]
  exact zdG
theorem A4 {j:vE} {x:Rd T} {lz:List Tok} {j':vE} {x':Rd T} (h:Es e j ts x) (hs:∀ f,rs e f j ts=x->rs e (f+1) j' lz=x'):Es e j' lz x':=by
 exact zcq
theorem MP {j j2:vE} {x x2:Rd T} {lz zq:List Tok} {j':vE} {x':Rd T} (h:Es e j ts x) (G:Es e j2 zq x2) (hs:∀ f,rs e f j ts=x->rs e f j2 zq=x2->rs e (f+1) j' lz=x'):Es e j' lz x':=by
 exact zbO
theorem UF (c:E) {l:List S} (C:uW l):uX (.if1 c l):=by
 intro e d ts rest ho ht eH;simp only [S.ok,aK] at ho;rw [S.tk] at ht;obtain ⟨v,r,rfl,I,G⟩:=map_cons ht;obtain ⟨u,r,rfl,h3,h4⟩:=map_cons G;obtain ⟨A,r,rfl,h5,h6⟩:=eu h4;obtain ⟨w,r,rfl,h7,h8⟩:=map_cons h6;obtain ⟨x,r,rfl,h9,qa⟩:=map_cons h8;obtain ⟨B,r,rfl,rY,oT⟩:=eu qa;obtain ⟨y,rfl,gx⟩:=ky oT;obtain ⟨I,dD⟩:=fv I;obtain ⟨h3,nt⟩:=fv h3;obtain ⟨h7,nR⟩:=fv h7;obtain ⟨h9,He⟩:=fv h9;obtain ⟨gx,Dz⟩:=fv gx
 have he:v::u::(A++w::x::(B++[y]))++rest=v::u::(A++w::(x::(B++y::rest))):=by simp
 have hi:=yW (e:=e) (d:=d+1) (rest:=x::(B++y::rest)) ho.1 h5 h3 nt h7 nR zf8;have hb:=C.blk (e:=e) (d:=d+1) (rest:=rest) ho.2 rY h9 He gx Dz;have hv:=xk (rest:=u::(A++w::(x::(B++y::rest)))) I dD;rw [he,S.fit]
 refine tj fun hd=>?_
 cases hfa:tD c (d+1) with
 | false =>
  exact zbs
 | true =>
  obtain ⟨tc,k1,k2⟩:=hi.1 hfa;rw [Bool.true_and];refine ⟨fun h=>?_,fun h=>?_⟩
  ·obtain ⟨tb,k3,k4⟩:=hb.1 h;refine ⟨one 9 v.at_ [] [tc,tb],by show er _=_;rw [eW,bf,bf,k1,k3,S.tree];rfl,A4 k4 fun f k4=>?_⟩;refine zaS ?_;rw [k4];simp only;rw [ah hv,ab eH];rfl
  ·obtain ⟨pos,k3⟩:=hb.2 h;exact zfO
theorem OT (c:E) {l:List S} (C:uW l):uX (.while_ c l):=by
 intro e d ts rest ho ht eH;simp only [S.ok,aK] at ho;rw [S.tk] at ht;obtain ⟨v,r,rfl,I,G⟩:=map_cons ht;obtain ⟨u,r,rfl,h3,h4⟩:=map_cons G;obtain ⟨A,r,rfl,h5,h6⟩:=eu h4;obtain ⟨w,r,rfl,h7,h8⟩:=map_cons h6;obtain ⟨x,r,rfl,h9,qa⟩:=map_cons h8;obtain ⟨B,r,rfl,rY,oT⟩:=eu qa;obtain ⟨y,rfl,gx⟩:=ky oT;obtain ⟨I,dD⟩:=fv I;obtain ⟨h3,nt⟩:=fv h3;obtain ⟨h7,nR⟩:=fv h7;obtain ⟨h9,He⟩:=fv h9;obtain ⟨gx,Dz⟩:=fv gx
 have he:v::u::(A++w::x::(B++[y]))++rest=v::u::(A++w::(x::(B++y::rest))):=by simp
 have hi:=yW (e:=e) (d:=d+1) (rest:=x::(B++y::rest)) ho.1 h5 h3 nt h7 nR zf8;have hb:=C.blk (e:=e) (d:=d+1) (rest:=rest) ho.2 rY h9 He gx Dz;have hv:=xk (rest:=u::(A++w::(x::(B++y::rest)))) I dD;rw [he,S.fit]
 refine tj fun hd=>?_
 cases hfa:tD c (d+1) with
 | false =>
  refine ⟨fun hb=>zgW,fun _=>?_⟩;obtain ⟨pos,k1⟩:=hi.2 hfa;refine ⟨pos,vN fun f=>?_⟩;rw [rs,ab av];simp only;rw [ab zgX,ah (.inr hv),tail_cons,k1]
 | true =>
  obtain ⟨tc,k1,k2⟩:=hi.1 hfa;rw [Bool.true_and];refine ⟨fun h=>?_,fun h=>?_⟩
  ·obtain ⟨tb,k3,k4⟩:=hb.1 h;refine ⟨one 10 v.at_ [] [tc,tb],by show er _=_;rw [eW,bf,bf,k1,k3,S.tree];rfl,A4 k4 fun f k4=>?_⟩;rw [rs,ab av];simp only;rw [ab zgX,ah (.inr hv),tail_cons,k2];simp only;rw [k4];simp only;rw [ab zgX];rfl
  ·obtain ⟨pos,k3⟩:=hb.2 h;refine ⟨pos,A4 k3 fun f k3=>?_⟩;rw [rs,ab av];simp only;rw [ab zgX,ah (.inr hv),tail_cons,k2];simp only;rw [k3]
theorem UG (c:E) {l l2:List S} (C:uW l) (C2:uW l2):uX (.if2 c l l2):=by
 intro e d ts rest ho ht eH;simp only [S.ok,aK] at ho;rw [S.tk] at ht;obtain ⟨v,r,rfl,I,G⟩:=map_cons ht;obtain ⟨u,r,rfl,h3,h4⟩:=map_cons G;obtain ⟨A,r,rfl,h5,h6⟩:=eu h4;obtain ⟨w,r,rfl,h7,h8⟩:=map_cons h6;obtain ⟨x,r,rfl,h9,qa⟩:=map_cons h8;obtain ⟨B,r,rfl,rY,oT⟩:=eu qa;obtain ⟨y,r,rfl,gx,El⟩:=map_cons oT;obtain ⟨z,r,rfl,h15,h16⟩:=map_cons El;obtain ⟨x2,r,rfl,h17,h18⟩:=map_cons h16;obtain ⟨B2,r,rfl,h19,h20⟩:=eu h18;obtain ⟨y2,rfl,MZ⟩:=ky h20;obtain ⟨I,dD⟩:=fv I;obtain ⟨h3,nt⟩:=fv h3;obtain ⟨h7,nR⟩:=fv h7;obtain ⟨h9,He⟩:=fv h9;obtain ⟨gx,Dz⟩:=fv gx;obtain ⟨h15,ac7⟩:=fv h15;obtain ⟨h17,ac8⟩:=fv h17;obtain ⟨MZ,ac9⟩:=fv MZ
 have he:v::u::(A++w::x::(B++y::z::x2::(B2++[y2])))++rest=v::u::(A++w::(x::(B++y::(z::(x2::(B2++y2::rest)))))):=by simp
 have hi:=yW (e:=e) (d:=d+1) (rest:=x::(B++y::(z::(x2::(B2++y2::rest))))) ho.1 h5 h3 nt h7 nR zf8;have hb:=C.blk (e:=e) (d:=d+1) (rest:=z::(x2::(B2++y2::rest))) ho.2.1 rY h9 He gx Dz;have eM:=C2.blk (e:=e) (d:=d+1) (rest:=rest) ho.2.2 h19 h17 ac8 MZ ac9;have hv:=xk (rest:=u::(A++w::(x::(B++y::(z::(x2::(B2++y2::rest))))))) I dD;have hz:=xk (rest:=x2::(B2++y2::rest)) h15 ac7;rw [he,S.fit]
 refine tj fun hd=>?_
 cases hfa:tD c (d+1) with
 | false =>
  exact zbs
 | true =>
  obtain ⟨tc,k1,k2⟩:=hi.1 hfa;rw [Bool.true_and]
  cases hfb:(decide (d+1<=60)&&S.fits l (d+2)) with
  | false =>
   refine ⟨fun hb=>zgW,fun _=>?_⟩;obtain ⟨pos,k3⟩:=hb.2 hfb;exact zfO
  | true =>
   obtain ⟨tb,k3,k4⟩:=hb.1 hfb;rw [Bool.true_and];refine ⟨fun h=>?_,fun h=>?_⟩
   ·obtain ⟨tb2,k5,k6⟩:=eM.1 h;refine ⟨one 9 v.at_ [] [tc,tb,tb2],by show er _=_;rw [eW,bf,bf,bf,k1,k3,k5,S.tree];rfl,MP k4 k6 fun f k4 k6=>?_⟩;refine zaS ?_;rw [k4];simp only;rw [ah hv,ah hz,tail_cons,k6];rfl
   ·obtain ⟨pos,k5⟩:=eM.2 h;refine ⟨pos,MP k4 k5 fun f k4 k5=>?_⟩;refine zaS ?_;rw [k4];simp only;rw [ah hv,ah hz,tail_cons,k5]
end
mutual
theorem coreS:∀ (s:S),uX s
 | .set s a=>UK s a
 | .put s a b=>UI s a b
 | .if1 c b=>UF c (B9 b)
 | .if2 c b b2=>UG c (B9 b) (B9 b2)
 | .while_ c b=>OT c (B9 b)
 | .ret a=>UJ a
 | .do_ a=>Yd a
 | .var s a=>UL s a
theorem B9:∀ (l:List S),uW l
 | []=>QV
 | a::l=>OR (coreS a) (B9 l)
end
def OH (l:List S):List K:=kS [123]::(S.qn l++[kS [125]])
def cR (l:List S):T:=.mk ⟨14,0,0,[],[]⟩ (S.trees l)
def gw (l:List S) (d:Nat):Bool:=decide (d<=60)&&S.fits l (d+1)
theorem acH (e:Int):∀ f,(∀ j ts,rs e f j ts=.error bx\/rs e (f+1) j ts=rs e f j ts)/\(∀ d acc ts,rs.body e f d acc ts=.error bx\/rs.body e (f+1) d acc ts=rs.body e f d acc ts):=by
 intro f
 induction f with
 | zero=>exact ⟨fun j ts=>.inl zg4,fun d acc ts=>.inl (by simp [rs.body])⟩
 | succ f ih =>
  obtain ⟨i1,i2⟩:=ih;refine ⟨fun j ts=>?_,fun d acc ts=>?_⟩
  ·cases j with
   | block d =>
    rw [rs,rs];split
    ·exact zbB
    ·cases aR e [123] ts with
     | error x=>exact zbB
     | ok r =>
      simp only
      rcases i2 (d+1) [] r with h | h
      ·left;rw [h]
      ·rw [h];exact zbB
   | stmt d =>
    rw [rs,rs];split
    ·exact zbB
    ·simp only;split
     ·exact zbB
     ·split
      ·cases inner e (d+1) [40] [41] ts.tail with
       | error x=>exact zbB
       | ok y =>
        obtain ⟨c,r⟩:=y;simp only
        rcases i1 (.block (d+1)) r with h | h
        ·left;rw [h]
        ·rw [h]
         cases rs e f (.block (d+1)) r with
         | error x=>exact zbB
         | ok y =>
          obtain ⟨b,r⟩:=y;simp only;split
          ·split
           ·rcases i1 (.block (d+1)) r.tail with h | h
            ·left;rw [h]
            ·rw [h];exact zbB
           ·exact zbB
          ·exact zbB
      ·exact zbB
  ·rw [rs.body,rs.body];split
   ·exact zbB
   ·rcases i1 (.stmt d) ts with h | h
    ·left;rw [h]
    ·rw [h]
     cases rs e f (.stmt d) ts with
     | error x=>exact zbB
     | ok y=>exact i2 _ _ _
theorem Zc {e:Int} {f f':Nat} {j:vE} {ts:List Tok} (h:rs e f j ts≠.error bx) (hf:f<=f'):rs e f' j ts=rs e f j ts:=by
 obtain ⟨k,rfl⟩:=Nat.exists_eq_add_of_le hf;clear hf
 induction k with
 | zero=>rfl
 | succ k ih =>
  rcases (acH e (f+k)).1 j ts with I | I
  ·rw [ih] at I;exact absurd I h
  ·rw [<-iJ,I,ih]
theorem IQ {l:List S} {e:Int} {d:Nat} {ts rest:List Tok} (ho:S.dT l=true) (ht:ts.map kf=OH l) :
  (gw l d=true->∃ t,er t=cR l/\block e d (ts++rest)=.ok (t,rest))/\(gw l d=false->∃ pos,block e d (ts++rest)=.error (9,pos)):=by
 obtain ⟨u,r,rfl,I,G⟩:=map_cons ht;obtain ⟨A,r,rfl,h3,h4⟩:=eu G;obtain ⟨w,rfl,h5⟩:=ky h4;obtain ⟨I,dD⟩:=fv I;obtain ⟨h5,WR⟩:=fv h5;have hb:=(B9 l).blk (e:=e) (d:=d) (rest:=rest) ho h3 I dD h5 WR
 have he:u::(A++[w])++rest=u::(A++w::rest):=by simp
 rw [he]
 have key:∀ {x:Rd T},Es e (.block d) (u::(A++w::rest)) x->block e d (u::(A++w::rest))=x:=by
  rintro x ⟨f0,h0⟩;have cj:rs e (p9 (u::(A++w::rest))) (.block d) (u::(A++w::rest))≠.error bx:=zz;have:=Zc cj (Nat.le_add_left _ f0);rw [h0 _ av] at this;exact this.symm
 exact ⟨fun h=>by obtain ⟨t,k1,k2⟩:=hb.1 h;exact ⟨t,k1,key k2⟩,fun h=>by obtain ⟨pos,k1⟩:=hb.2 h;exact ⟨pos,key k1⟩⟩
open Go.Sp (eo dd cQ own qi bP)
def CI (n:Int):Int:=if n % 4294967296 > 2147483647 then n % 4294967296 - 4294967296 else n % 4294967296
def iD (n:Nat):ae:=if h:n < 10 then [UInt8.ofNat (48+n)] else iD (n / 10)++[UInt8.ofNat (48+n % 10)]
termination_by n
decreasing_by omega
theorem I4 (n:Nat):(iD n).length<=n+1:=by
 induction n using Nat.strongRecOn with
 | _ n ih =>
 unfold iD
 by_cases h:n < 10
 ·rw [dif_pos h];simp
 ·rw [dif_neg h,aL];have:=ih (n / 10) av;simp;omega
def cM:List ae->ae
 | []=>[]
 | x::r=>x++r.flatMap fun y=>44::32::y
theorem EN {l:List ae} (h:l≠[]) (x:ae):cM (l++[x])=(cM l++[44,32])++x:=by
 cases l with
 | nil=>exact absurd rfl h
 | cons a l=>simp [cM,List.flatMap_append]
theorem zW (l:List ae) (k:Nat):(cM (l.take k)).length<=(cM l).length:=by
 cases l with
 | nil=>simp
 | cons a l =>
  cases k with
  | zero=>simp [cM]
  | succ k =>
   simp only [take_succ_cons,cM,aL]
   have:∀ (l:List ae) (k:Nat),((l.take k).flatMap fun y=>(44:UInt8)::32::y).length<=(l.flatMap fun y=>(44:UInt8)::32::y).length:=by
    intro l
    induction l with
    | nil=>intro k;simp
    | cons b l ih=>intro k;cases k with
     | zero=>simp
     | succ k=>simp only [take_succ_cons,flatMap_cons,aL];have:=ih k;omega
   have:=this l k;omega
def uc (lv k:Nat) (x:ae):ae:=if lv < k then (40::x)++[41] else x
mutual
def E.bK:E->ae
 | .num n=>iD n.toNat
 | .name s=>s
 | .at_ s a=>((s++[91])++a.bK)++[93]
 | .call s l=>((s++[40])++cM (E.dR l))++[41]
 | .un s a=>(s++[32])++uc a.lv 9 a.bK
 | .bin s a b=>(((uc a.lv (fw s) a.bK++[32])++s)++[32])++uc b.lv (fw s+1) b.bK
def E.dR:List E->List ae
 | []=>[]
 | a::l=>a.bK::E.dR l
end
mutual
def E.full:E->ae
 | .num n=>iD n.toNat
 | .name s=>s
 | .at_ s a=>((s++[91])++a.full)++[93]
 | .call s l=>((s++[40])++cM (E.vU l))++[41]
 | .un s a=>((40::s)++a.full)++[41]
 | .bin s a b=>(((((40::a.full)++[32])++s)++[32])++b.full)++[41]
def E.vU:List E->List ae
 | []=>[]
 | a::l=>a.full::E.vU l
end
theorem E.Wc (l:List E):E.dR l=l.map E.bK:=by
 induction l with
 | nil=>rfl
 | cons a l ih=>rw [E.dR,ih];rfl
theorem E.RE (l:List E):E.vU l=l.map E.full:=by
 induction l with
 | nil=>rfl
 | cons a l ih=>rw [E.vU,ih];rfl
def E.out (least:Bool) (a:E):ae:=if least then a.bK else a.full
mutual
def S.bK (x:E->ae):S->ae
 | .set s a=>((s++[32,61,32])++x a)++[59]
 | .put s a b=>((((s++[91])++x a)++[93,32,61,32])++x b)++[59]
 | .if1 c b=>(([105,102,32,40]++x c)++[41,32])++(S.dR x [123,32] b++[125])
 | .if2 c b b2=>(((([105,102,32,40]++x c)++[41,32])++(S.dR x [123,32] b++[125]))++[32,101,108,115,101,32])++(S.dR x [123,32] b2++[125])
 | .while_ c b=>(([119,104,105,108,101,32,40]++x c)++[41,32])++(S.dR x [123,32] b++[125])
 | .ret a=>([114,101,116,117,114,110,32]++x a)++[59]
 | .do_ a=>x a++[59]
 | .var s a=>((([118,97,114,32]++s)++[32,61,32])++x a)++[59]
def S.dR (x:E->ae):ae->List S->ae
 | acc,[]=>acc
 | acc,a::l=>S.dR x ((acc++a.bK x)++[32]) l
end
def ik (x:E->ae) (l:List S):ae:=S.dR x [123,32] l++[125]
theorem Mr (n:Nd) (l:List T):eo (.mk n l)=(dd l&&cQ (.mk n l)):=by rw [eo]
theorem xy {l:List T} (h:dd l=true) {t:T} (ht:t∈l):eo t=true:=by
 induction l with
 | nil=>cases ht
 | cons a l ih =>
  rw [dd,aK] at h
  rcases fh ht with rfl | ht
  ·exact h.1
  ·exact ih h.2 ht
theorem pG (n:Nd) (l:List T):er (.mk n l)=.mk ⟨n.kind,0,n.n,n.s,[]⟩ (bf l):=by rw [er]
theorem kV {l:List T} {m i:Nat} (h:bP m i l=true):∀ (j:Nat) t,l[j]?=some t->(if i+j < m then qi t.n.kind else t.n.kind==14)=true:=by
 induction l generalizing i with
 | nil=>intro j t h;simp at h
 | cons a l ih =>
  rw [bP,aK] at h;intro j t hj
  cases j with
  | zero=>cases hj;exact h.1
  | succ j=>have:=ih h.2 j t zgp;rw [show i+(j+1)=i+1+j by omega];exact this
theorem I9:∀ (l:List T),(∀ t∈l,∃ a:E,a.ok=true/\er t=a.tree)->∃ es:List E,E.dT es=true/\bf l=E.trees es
 | [],_=>⟨[],rfl,rfl⟩
 | t::l,h=>by
  obtain ⟨a,I,G⟩:=h t (mem_cons_self);obtain ⟨es,h3,h4⟩:=I9 l (fun t ht=>h t (dK _ ht));exact ⟨a::es,by simp [E.dT,I,h3],by rw [bf,E.trees,G,h4]⟩
theorem toE:∀ (sz:Nat) (t:T),sizeOf t<=sz->eo t=true->qi t.n.kind=true->∃ a:E,a.ok=true/\er t=a.tree:=by
 intro sz
 induction sz with
 | zero=>intro t h;cases t;simp at h
 | succ sz ih =>
  intro t dj ha hk;obtain ⟨n,l⟩:=t;rw [Mr,aK] at ha;obtain ⟨ha,ho⟩:=ha
  have tM:∀ t∈l,qi t.n.kind=true->∃ a:E,a.ok=true/\er t=a.tree:=fun t ht hk=>by
   have:=List.sizeOf_lt_of_mem ht;exact ih t zgU (xy ha ht) hk
  obtain ⟨k,at_,v,s,ks⟩:=n
  have hk:(1:Int)<=k/\k<=6:=by
   simp only [qi,T.n,aK] at hk;exact ⟨n8 hk.1,n8 hk.2⟩
  simp only [cQ,own,T.n,T.kids] at ho
  obtain rfl | rfl | rfl | rfl | rfl | rfl:k=1\/k=2\/k=3\/k=4\/k=5\/k=6:=by omega
  ·simp at ho;obtain ⟨I,G,h3,h4,h5⟩:=ho;subst h4 h5;exact ⟨.num v,by simp only [E.ok,aK];exact ⟨G,h3⟩,by rw [pG,E.tree];rfl⟩
  ·simp at ho;obtain ⟨I,G,h3,h4⟩:=ho;subst G h4;exact ⟨.name s,by simp [E.ok,h3],by rw [pG,E.tree];rfl⟩
  ·simp at ho;obtain ⟨I,G,h3,h4,h5⟩:=ho;subst G
   match l,h4 with
   | [t],_ =>
    have AL:=kV h5 0 t rfl;obtain ⟨a,h6,h7⟩:=tM t zf8 (by simpa using AL);exact ⟨.at_ s a,by simp [E.ok,h3,h6],by rw [pG,E.tree,bf,h7];rfl⟩
  ·simp at ho;obtain ⟨I,G,h3,h5⟩:=ho;subst G
   obtain ⟨es,h6,h7⟩:=I9 l fun t ht=>tM t ht (by
    obtain ⟨j,hj⟩:=List.mem_iff_getElem?.1 ht;have au:=(bB hj).1;have:=kV h5 j t hj
    rw [ah av] at this;exact this)
   exact ⟨.call s es,by simp [E.ok,h3,h6],by rw [pG,E.tree,h7]⟩
  ·simp at ho;obtain ⟨I,G,h3,h4,h5⟩:=ho;subst G
   match l,h4 with
   | [t],_ =>
    have AL:=kV h5 0 t rfl;obtain ⟨a,h6,h7⟩:=tM t zf8 (by simpa using AL);exact ⟨.un s a,by simp only [E.ok,h6,Bool.and_true,Bool.or_eq_true,beq_iff_eq];exact h3,by rw [pG,E.tree,bf,h7];rfl⟩
  ·simp at ho;obtain ⟨I,G,h3,h4,h5⟩:=ho;subst G
   match l,h4 with
   | [t,u],_ =>
    have AL:=kV h5 0 t rfl;have hku:=kV h5 1 u rfl;obtain ⟨a,h6,h7⟩:=tM t zf8 (by simpa using AL);obtain ⟨b,h8,h9⟩:=tM u zf8 (by simpa using hku);exact ⟨.bin s a b,by simp [E.ok,h3,h6,h8],by rw [pG,E.tree,bf,bf,h7,h9];rfl⟩
open Go.Sp (kl)
theorem K5:∀ (l:List T),(∀ t∈l,∃ a:S,a.ok=true/\er t=a.tree)->∃ es:List S,S.dT es=true/\bf l=S.trees es
 | [],_=>⟨[],rfl,rfl⟩
 | t::l,h=>by
  obtain ⟨a,I,G⟩:=h t (mem_cons_self);obtain ⟨es,h3,h4⟩:=K5 l (fun t ht=>h t (dK _ ht));exact ⟨a::es,by simp [S.dT,I,h3],by rw [bf,S.trees,G,h4]⟩
theorem toS:∀ (sz:Nat) (t:T),sizeOf t<=sz->eo t=true->(kl t.n.kind=true->∃ a:S,a.ok=true/\er t=a.tree)/\(t.n.kind=14->∃ l:List S,S.dT l=true/\er t=cR l):=by
 intro sz
 induction sz with
 | zero=>intro t h;cases t;simp at h
 | succ sz ih =>
  intro t dj ha;obtain ⟨n,l⟩:=t;rw [Mr,aK] at ha;obtain ⟨ha,ho⟩:=ha
  have hex:∀ t∈l,qi t.n.kind=true->∃ a:E,a.ok=true/\er t=a.tree:=fun t ht hk=>toE _ t (aI _) (xy ha ht) hk
  have fu:∀ t∈l,t.n.kind=14->∃ l:List S,S.dT l=true/\er t=cR l:=fun t ht hk=>by
   have:=List.sizeOf_lt_of_mem ht;exact (ih t zgU (xy ha ht)).2 hk
  have b6:∀ t∈l,kl t.n.kind=true->∃ a:S,a.ok=true/\er t=a.tree:=fun t ht hk=>by
   have:=List.sizeOf_lt_of_mem ht;exact (ih t zgU (xy ha ht)).1 hk
  obtain ⟨k,at_,v,s,ks⟩:=n;simp only [cQ,own,T.n,T.kids] at ho;refine ⟨fun hk=>?_,fun hk=>?_⟩
  ·have hk:(7:Int)<=k/\k<=13:=by
    simp only [kl,T.n,aK] at hk;exact ⟨n8 hk.1,n8 hk.2⟩
   obtain rfl | rfl | rfl | rfl | rfl | rfl | rfl:k=7\/k=8\/k=9\/k=10\/k=11\/k=12\/k=13:=by omega
   ·simp at ho;obtain ⟨I,G,h3,h4,h5⟩:=ho;subst G
    match l,h4 with
    | [t],_ =>
     obtain ⟨a,h6,h7⟩:=hex t zf8 zgk;exact ⟨.set s a,by simp [S.ok,h3,h6],by rw [pG,S.tree,bf,h7];rfl⟩
   ·simp at ho;obtain ⟨I,G,h3,h4,h5⟩:=ho;subst G
    match l,h4 with
    | [t,u],_ =>
     obtain ⟨a,h6,h7⟩:=hex t zf8 zgk;obtain ⟨b,h8,h9⟩:=hex u zf8 zgH;exact ⟨.put s a b,by simp [S.ok,h3,h6,h8],by rw [pG,S.tree,bf,bf,h7,h9];rfl⟩
   ·simp at ho;obtain ⟨I,G,h3,h4,h5⟩:=ho;subst G h3
    rcases h4 with h4 | h4
    ·match l,h4 with
     | [t,u],_ =>
      obtain ⟨a,h6,h7⟩:=hex t zf8 zgk;obtain ⟨b,h8,h9⟩:=fu u zf8 zgH;exact ⟨.if1 a b,by simp [S.ok,h6,h8],by rw [pG,S.tree,bf,bf,h7,h9];rfl⟩
    ·match l,h4 with
     | [t,u,w],_ =>
      obtain ⟨a,h6,h7⟩:=hex t zf8 zgk;obtain ⟨b,h8,h9⟩:=fu u zf8 zgH;obtain ⟨c,qa,rY⟩:=fu w zf8 (by simpa using kV h5 2 w rfl);exact ⟨.if2 a b c,by simp [S.ok,h6,h8,qa],by rw [pG,S.tree,bf,bf,bf,h7,h9,rY];rfl⟩
   ·simp at ho;obtain ⟨I,G,h3,h4,h5⟩:=ho;subst G h3
    match l,h4 with
    | [t,u],_ =>
     obtain ⟨a,h6,h7⟩:=hex t zf8 zgk;obtain ⟨b,h8,h9⟩:=fu u zf8 zgH;exact ⟨.while_ a b,by simp [S.ok,h6,h8],by rw [pG,S.tree,bf,bf,h7,h9];rfl⟩
   ·simp at ho;obtain ⟨I,G,h3,h4,h5⟩:=ho;subst G h3
    match l,h4 with
    | [t],_ =>
     obtain ⟨a,h6,h7⟩:=hex t zf8 zgk;exact ⟨.ret a,by simp [S.ok,h6],by rw [pG,S.tree,bf,h7];rfl⟩
   ·simp at ho;obtain ⟨I,G,h3,h4,h5⟩:=ho;subst G h3
    match l,h4 with
    | [t],_ =>
     obtain ⟨a,h6,h7⟩:=hex t zf8 zgk;exact ⟨.do_ a,by simp [S.ok,h6],by rw [pG,S.tree,bf,h7];rfl⟩
   ·simp at ho;obtain ⟨I,G,h3,h4,h5⟩:=ho;subst G
    match l,h4 with
    | [t],_ =>
     obtain ⟨a,h6,h7⟩:=hex t zf8 zgk;exact ⟨.var s a,by simp [S.ok,h3,h6],by rw [pG,S.tree,bf,h7];rfl⟩
  ·simp only [T.n] at hk;subst hk;simp at ho;obtain ⟨I,G,h3,h4⟩:=ho;subst G h4
   obtain ⟨es,h5,h6⟩:=K5 l fun t ht=>b6 t ht (h3 t ht)
   exact ⟨es,h5,by rw [pG,cR,h6]⟩
theorem toB {t:T} (h:eo t=true) (hk:t.n.kind=14):∃ l:List S,S.dT l=true/\er t=cR l:=(toS _ t (aI _) h).2 hk
mutual
def wt:T->Nat
 | .mk n l=>30+n.s.length+gB l
def gB:List T->Nat
 | []=>0
 | t::l=>wt t+gB l
end
mutual
theorem XX:∀ t:T,wt (er t)=wt t
 | .mk n l=>by rw [er,wt,wt,Oi l]
theorem Oi:∀ l:List T,gB (bf l)=gB l
 | []=>rfl
 | t::l=>by rw [bf,gB,gB,XX t,Oi l]
end
theorem MG:∀ (k n:Nat),n < 10 ^ (k+1)->(iD n).length<=k+1:=by
 intro k
 induction k with
 | zero=>intro n h;unfold iD;rw [dif_pos av];simp
 | succ k ih =>
  intro n h;unfold iD;split
  ·simp
  ·rw [aL];have:=ih (n / 10) (by rw [Nat.pow_succ] at h;omega);simp;omega
theorem v8 (lv k:Nat) (x:ae):(uc lv k x).length<=x.length+2:=by unfold uc;split <;> simp
mutual
theorem E.len:∀ a:E,a.ok=true->a.bK.length+4<=wt a.tree/\a.full.length+4<=wt a.tree
 | .num n,h=>by
  simp only [E.ok,aK] at h;have I:=n8 h.1;have G:=n8 h.2;have:=MG 9 n.toNat av;rw [E.bK,E.full,E.tree,wt];simp only [length_nil,gB];omega
 | .name s,h=>by rw [E.bK,E.full,E.tree,wt];simp only [gB];omega
 | .at_ s a,h=>by
  simp only [E.ok,aK] at h;have:=E.len a h.2;exact zfm
 | .call s l,h=>by
  simp only [E.ok,aK] at h;have:=E.lens l h.2;rw [E.bK,E.full,E.tree,wt];exact zad
 | .un s a,h=>by
  simp only [E.ok,aK] at h;have:=E.len a h.2;have:=v8 a.lv 9 a.bK;exact zfm
 | .bin s a b,h=>by
  simp only [E.ok,aK] at h;have:=E.len a h.1.2;have:=E.len b h.2;have:=v8 a.lv (fw s) a.bK;have:=v8 b.lv (fw s+1) b.bK;exact zfm
theorem E.lens:∀ l:List E,E.dT l=true->(cM (E.dR l)).length<=gB (E.trees l)/\(cM (E.vU l)).length<=gB (E.trees l)
 | [],_=>⟨aS _,aS _⟩
 | a::l,h=>by
  simp only [E.dT,aK] at h;have I:=E.len a h.1;have G:=E.lens l h.2;rw [E.dR,E.vU,E.trees,gB]
  have key:∀ (x:ae) (l:List ae),(cM (x::l)).length<=x.length+2+(cM l).length:=by
   intro x l
   cases l with
   | nil=>simp [cM]
   | cons y l=>simp [cM];omega
  have:=key a.bK (E.dR l);have:=key a.full (E.vU l);omega
end
mutual
theorem S.len (x:E->ae) (hx:∀ a:E,a.ok=true->(x a).length+4<=wt a.tree):∀ s:S,s.ok=true->(s.bK x).length+4<=wt s.tree
 | .set s a,h=>by
  simp only [S.ok,aK] at h;have:=hx a h.2;exact zdy
 | .put s a b,h=>by
  simp only [S.ok,aK] at h;have:=hx a h.2.1;have:=hx b h.2.2;exact zdy
 | .if1 c b,h=>by
  exact zbZ
 | .if2 c b b2,h=>by
  simp only [S.ok,aK] at h;have:=hx c h.1;have:=S.lens x hx b h.2.1 [123,32];have:=S.lens x hx b2 h.2.2 [123,32];rw [S.bK,S.tree,wt];simp only [gB,wt,aL,length_cons,length_nil] at *;omega
 | .while_ c b,h=>by
  exact zbZ
 | .ret a,h=>by
  simp only [S.ok] at h;have:=hx a h;exact zdy
 | .do_ a,h=>by
  simp only [S.ok] at h;have:=hx a h;exact zdy
 | .var s a,h=>by
  simp only [S.ok,aK] at h;have:=hx a h.2;exact zdy
theorem S.lens (x:E->ae) (hx:∀ a:E,a.ok=true->(x a).length+4<=wt a.tree):∀ l:List S,S.dT l=true->∀ acc:ae,(S.dR x acc l).length<=acc.length+gB (S.trees l)
 | [],_,acc=>by rw [S.dR];omega
 | a::l,h,acc=>by
  simp only [S.dT,aK] at h;have I:=S.len x hx a h.1;have G:=S.lens x hx l h.2 ((acc++a.bK x)++[32]);rw [S.dR,S.trees,gB];simp only [aL,length_cons,length_nil] at G;omega
end
theorem v7 (x:E->ae) (hx:∀ a:E,a.ok=true->(x a).length+4<=wt a.tree) {l:List S} (h:S.dT l=true):(ik x l).length<=wt (cR l):=by
 have:=S.lens x hx l h [123,32];unfold ik cR;rw [wt];simp only [aL,length_cons,length_nil] at *;omega
end Go.Xp
namespace Go.Im
open Go.Xp Go.Sp
def uv (g:Nat->Option (T × Nat)):List Int->Nat->List T->Option (List T × Nat)
 | [],next,acc=>some (acc,next)
 | k::r,next,acc=>if k=(next:Int) then match g next with
  | none=>none
  | some (t,e)=>uv g r e (acc++[t])
  else none
def tl (nodes:List Nd):Nat->Nat->Option (T × Nat)
 | 0,_=>none
 | f+1,a=>match nodes[a]? with
  | none=>none
  | some n=>match uv (tl nodes f) n.kids (a+1) [] with
   | none=>none
   | some (l,e)=>if n.at_ < 0 then none else some (.mk n l,e)
def tr (nodes:List Nd) (a:Nat):Option (T × Nat):=tl nodes (nodes.length+1) a
theorem Ll {nodes:List Nd} {g:Nat->Option (T × Nat)} (hg:∀ a t e,g a=some (t,e)->a < e/\e<=nodes.length/\e=a+aQ t/\(nodes.take e).drop a=jJ a t) :
  ∀ (ks:List Int) (next:Nat) (acc l:List T) (e:Nat),next<=nodes.length->uv g ks next acc=some (l,e)->∃ l',l=acc++l'/\e=next+aB l'/\e<=nodes.length/\ks=bJ next l'/\(nodes.take e).drop next=eD next l'
 | [],next,acc,l,e,hn,h=>by
  rw [uv] at h;cases h;exact ⟨[],by simp,by simp [aB],hn,rfl,by rw [eD];exact ig (by rw [lE,gE];omega)⟩
 | k::r,next,acc,l,e,hn,h=>by
  rw [uv] at h;split at h
  ·rename_i hk
   cases hq:g next with
   | none=>rw [hq] at h;cases h
   | some x =>
    obtain ⟨t,e1⟩:=x;rw [hq] at h;simp only at h;obtain ⟨a1,a2,a3,a4⟩:=hg _ _ _ hq;obtain ⟨l',b1,b2,b3,b4,b5⟩:=Ll hg r e1 (acc++[t]) l e a2 h;refine ⟨t::l',by rw [b1];simp,by rw [aB];omega,b3,by rw [bJ,<-a3,<-b4,hk],?_⟩;rw [eD,<-a3,<-a4,<-b5]
    have he:e1<=e:=by omega
    have I:(nodes.take e).take e1=nodes.take e1:=by rw [List.take_take,Nat.min_eq_left he]
    have G:(nodes.take e).drop next=((nodes.take e).take e1).drop next++(nodes.take e).drop e1:=by
     have h3:nodes.take e=(nodes.take e).take e1++(nodes.take e).drop e1:=(take_append_drop _ _).symm
     have h4:((nodes.take e).take e1).length=e1:=by rw [gE,gE];omega
     rw [h3,List.drop_append_of_le_length (by rw [h4];omega)];rw [<-h3]
    rw [G,I]
  ·cases h
theorem DZ {nodes:List Nd}:∀ (f a:Nat) (t:T) (e:Nat),tl nodes f a=some (t,e)->a < e/\e<=nodes.length/\e=a+aQ t/\(nodes.take e).drop a=jJ a t
 | 0,a,t,e,h=>by cases h
 | f+1,a,t,e,h=>by
  rw [tl] at h
  cases hn:nodes[a]? with
  | none=>exact zeh
  | some n =>
   rw [hn] at h;simp only at h;have au:=(bB hn).1
   cases hk:uv (tl nodes f) n.kids (a+1) [] with
   | none=>rw [hk] at h;cases h
   | some x =>
    obtain ⟨l,e1⟩:=x;rw [hk] at h;simp only at h;split at h
    ·cases h
    ·cases h;obtain ⟨l',b1,b2,b3,b4,b5⟩:=Ll (DZ f) n.kids (a+1) [] l e au hk
     have:l'=l:=by rw [b1];rfl
     subst this;refine ⟨by omega,b3,by rw [aQ];omega,?_⟩;rw [jJ,<-b4,<-b5]
     have I:(nodes.take e)[a]?=some n:=by rw [getElem?_take,ah av];exact hn
     obtain ⟨G,h3⟩:=bB I;rw [n5 G,h3]
def jX (nodes:List Nd):List Fn->Nat->List T->Option (List T × Nat)
 | [],next,acc=>some (acc,next)
 | f::r,next,acc=>match tr nodes next with
  | none=>none
  | some (t,e)=>if f.body=(next:Int) then jX nodes r e (acc++[t]) else none
def ep (k:Int) (n:Nat):Bool :=
 if k=1\/k=2 then ((n:Int)==0)
 else if k=4\/k=14 then true
 else if k=3\/k=5\/k=7\/k=11\/k=12\/k=13 then ((n:Int)==1)
 else if k=6\/k=8\/k=10 then ((n:Int)==2)
 else if k=9 then ((n:Int)==2) || ((n:Int)==3)
 else false
mutual
def j0:T->Bool
 | .mk n l=>ep n.kind l.length&&DM l
def DM:List T->Bool
 | []=>true
 | t::r=>j0 t&&DM r
end
theorem BC (t:T):j0 t=(ep t.n.kind t.kids.length&&DM t.kids):=by cases t;rw [j0];rfl
theorem w8 (l:List T):DM l=l.all j0:=by
 induction l with
 | nil=>rfl
 | cons t l ih=>rw [DM,ih];rfl
mutual
def ek (nodes:List Nd):Nat->T->Prop
 | a,.mk n l=>nodes[a]?=some n/\n.kids=bJ (a+1) l/\ey nodes (a+1) l
def ey (nodes:List Nd):Nat->List T->Prop
 | _,[]=>True
 | a,t::r=>ek nodes a t/\ey nodes (a+aQ t) r
end
mutual
def AU:T->Prop
 | .mk n l=>0<=n.at_/\pF l
def pF:List T->Prop
 | []=>True
 | t::r=>AU t/\pF r
end
theorem gX (t:T):1<=aQ t:=by rw [fH];omega
mutual
theorem ek.le {nodes:List Nd}:∀ (t:T) (a:Nat),ek nodes a t->a+aQ t<=nodes.length
 | .mk n l,a,h=>by
  rw [ek] at h;have I:=(bB h.1).1;have:=ey.le l (a+1) h.2.2 I;rw [aQ];omega
theorem ey.le {nodes:List Nd}:∀ (l:List T) (a:Nat),ey nodes a l->a<=nodes.length->a+aB l<=nodes.length
 | [],a,h,ha=>by rw [aB];exact ha
 | t::r,a,h,ha=>by
  rw [ey] at h;have I:=ek.le t a h.1;have:=ey.le r _ h.2 I;rw [aB];omega
end
theorem MJ {nodes:List Nd}:∀ (f:Nat),(∀ (a d:Nat) (e:Int),rM nodes f a d=some e->0<=e->∃ t,ek nodes a t/\e=((a+aQ t:Nat):Int)) /\
  (∀ (ks:List Int) (next d:Nat) (e:Int),qP nodes f ks (next:Int) d=some e->0<=e->∃ l,ey nodes next l/\ks=bJ next l/\e=((next+aB l:Nat):Int)):=by
 intro f
 induction f with
 | zero =>
  refine ⟨fun a d e h _=>by simp [rM] at h,fun ks next d e h _=>?_⟩
  cases ks with
  | nil=>rw [qP] at h;cases h;exact ⟨[],trivial,rfl,by simp [aB]⟩
  | cons k r=>simp [qP] at h
 | succ f ih =>
  refine ⟨fun a d e h he=>?_,fun ks next d e h he=>?_⟩
  ·rw [rM] at h;split at h
   ·cases h;omega
   ·cases hn:nodes[a]? with
    | none=>exact zeh
    | some n =>
     rw [hn] at h;simp only at h;rw [show ((a:Int)+1)=((a+1:Nat):Int) by omega] at h;obtain ⟨l,I,G,h3⟩:=ih.2 _ _ _ _ h he;exact ⟨.mk n l,by rw [ek];exact ⟨hn,G,I⟩,by rw [h3,aQ];omega⟩
  ·cases ks with
   | nil=>rw [qP] at h;cases h;exact ⟨[],trivial,rfl,by simp [aB]⟩
   | cons k r =>
    rw [qP] at h;split at h
    ·rename_i hk;subst hk;rw [iK] at h
     cases hq:rM nodes f next (d+1) with
     | none=>rw [hq] at h;cases h
     | some e1 =>
      rw [hq] at h;simp only at h;split at h
      ·cases h;omega
      ·rename_i h0;obtain ⟨t,I,G⟩:=ih.1 _ _ _ hq av;subst G;obtain ⟨l,h3,h4,h5⟩:=ih.2 _ _ _ _ h he;refine ⟨t::l,by rw [ey];exact ⟨I,h3⟩,by rw [bJ,<-h4],by rw [h5,aB];omega⟩
    ·cases h;omega
theorem zm {nodes:List Nd}:∀ (f:Nat),(∀ (t:T) (a:Nat),ek nodes a t->2 * aQ t<=f->sub nodes f a=some t) /\
  (∀ (l:List T) (a:Nat) (acc:List T),ey nodes a l->2 * aB l+1<=f->rQ nodes f (bJ a l) acc=some (acc++l)):=by
 intro f
 induction f with
 | zero =>
  exact ⟨fun t a _ h=>by have:=gX t;omega,fun l a acc _ h=>by omega⟩
 | succ f ih =>
  refine ⟨fun t a hs h=>?_,fun l a acc hs h=>?_⟩
  ·obtain ⟨n,l⟩:=t;rw [ek] at hs;rw [aQ] at h;rw [sub,hs.1];simp only;rw [hs.2.1,ih.2 l (a+1) [] hs.2.2 av];rfl
  ·cases l with
   | nil=>rw [bJ,rQ];simp
   | cons t l =>
    rw [ey] at hs;rw [aB] at h;have:=gX t;rw [bJ,rQ,ab av,iK,ih.1 t a hs.1 av];simp only;rw [ih.2 l _ _ hs.2 av];simp
theorem abp {nodes:List Nd}:∀ (f:Nat) (t:T) (a:Nat),ek nodes a t->AU t->aQ t<=f->tl nodes f a=some (t,a+aQ t):=by
 intro f
 induction f with
 | zero=>intro t a _ _ h;exact zcF
 | succ f ih =>
  intro t a hs ha h;obtain ⟨n,l⟩:=t
  have key:∀ (l:List T) (a:Nat) (acc:List T),ey nodes a l->pF l->aB l<=f->uv (tl nodes f) (bJ a l) a acc=some (acc++l,a+aB l):=by
   intro l
   induction l with
   | nil=>intro a acc _ _ _;rw [bJ,uv,aB];simp
   | cons t l ih2 =>
    intro a acc hs ha h;rw [ey] at hs;rw [pF] at ha;rw [aB] at h;rw [bJ,uv,ah rfl,ih t a hs.1 ha.1 av];simp only;rw [ih2 _ _ hs.2 ha.2 av,aB];simp [iJ]
  rw [ek] at hs;rw [AU] at ha;rw [aQ] at h;rw [tl,hs.1];simp only;rw [hs.2.1,key l (a+1) [] hs.2.2 ha.2 av];simp only;rw [ab av,aQ];simp only [nil_append,Option.some.injEq,Prod.mk.injEq,true_and];omega
theorem abj {nodes:List Nd}:∀ (f:Nat) (t:T) (a e:Nat),tl nodes f a=some (t,e)->ek nodes a t/\e=a+aQ t/\AU t:=by
 intro f
 induction f with
 | zero=>intro t a e h;cases h
 | succ f ih =>
  intro t a e h
  have key:∀ (ks:List Int) (next:Nat) (acc l:List T) (e:Nat),uv (tl nodes f) ks next acc=some (l,e)->∃ l',l=acc++l'/\ey nodes next l'/\ks=bJ next l'/\e=next+aB l'/\pF l':=by
   intro ks
   induction ks with
   | nil=>intro next acc l e h;rw [uv] at h;cases h;exact ⟨[],by simp,trivial,rfl,by simp [aB],trivial⟩
   | cons k r ih2 =>
    intro next acc l e h
    rw [uv] at h;split at h
    ·rename_i hk
     cases hq:tl nodes f next with
     | none=>rw [hq] at h;cases h
     | some x =>
      obtain ⟨t,e1⟩:=x;rw [hq] at h;simp only at h;obtain ⟨a1,a2,a3⟩:=ih _ _ _ hq;subst a2;obtain ⟨l',b1,b2,b3,b4,b5⟩:=ih2 _ _ _ _ h;exact ⟨t::l',by rw [b1];simp,by rw [ey];exact ⟨a1,b2⟩,by rw [bJ,hk,b3],by rw [b4,aB];omega,by rw [pF];exact ⟨a3,b5⟩⟩
    ·cases h
  rw [tl] at h
  cases hn:nodes[a]? with
  | none=>exact zeh
  | some n =>
   rw [hn] at h;simp only at h
   cases hk:uv (tl nodes f) n.kids (a+1) [] with
   | none=>rw [hk] at h;cases h
   | some x =>
    obtain ⟨l,e1⟩:=x;rw [hk] at h;simp only at h;split at h
    ·cases h
    ·rename_i h0;cases h;obtain ⟨l',b1,b2,b3,b4,b5⟩:=key _ _ _ _ _ hk
     have:l'=l:=by rw [b1];rfl
     subst this;exact ⟨by rw [ek];exact ⟨hn,b3,b2⟩,by rw [b4,aQ];omega,by rw [AU];exact ⟨by omega,b5⟩⟩
theorem Ym {nodes:List Nd} (hl:nodes.length<=800):∀ (f:Nat),(∀ (t:T) (a d:Nat),ek nodes a t->d<=a->2 * aQ t<=f->rM nodes f a d=some ((a+aQ t:Nat):Int)) /\
  (∀ (l:List T) (a d:Nat),ey nodes a l->d < a->2 * aB l+1<=f->qP nodes f (bJ a l) (a:Int) d=some ((a+aB l:Nat):Int)):=by
 intro f
 induction f with
 | zero =>
  exact ⟨fun t a d _ _ h=>by have:=gX t;omega,fun l a d _ _ h=>by omega⟩
 | succ f ih =>
  refine ⟨fun t a d hs hd h=>?_,fun l a d hs hd h=>?_⟩
  ·obtain ⟨n,l⟩:=t;rw [ek] at hs;rw [aQ] at h |-;have au:=(bB hs.1).1;rw [rM,ab av,hs.1];simp only;rw [show ((a:Int)+1)=((a+1:Nat):Int) by omega,hs.2.1,ih.2 l (a+1) d hs.2.2 av av]
   congr 1;omega
  ·cases l with
   | nil=>rw [bJ,qP,aB];simp
   | cons t l =>
    rw [ey] at hs;rw [aB] at h |-;have:=gX t;rw [bJ,qP,ah rfl,iK,ih.1 t a (d+1) hs.1 av av];simp only;rw [ab av,ih.2 l _ d hs.2 av av]
    congr 1;omega
theorem Q4 {nodes:List Nd}:∀ (f:Nat),(∀ (a d:Nat),2 * (nodes.length - a)+1<=f->∃ e,rM nodes f a d=some e/\(0<=e->(a:Int) < e/\a < nodes.length)) /\
  (∀ (ks:List Int) (next d:Nat),2 * (nodes.length - next)+2<=f->∃ e,qP nodes f ks (next:Int) d=some e/\(0<=e->(next:Int)<=e)):=by
 intro f
 induction f with
 | zero=>exact ⟨fun a d h=>by omega,fun ks next d h=>by omega⟩
 | succ f ih =>
  refine ⟨fun a d h=>?_,fun ks next d h=>?_⟩
  ·rw [rM];split
   ·exact zfB
   ·rename_i hc
    cases hn:nodes[a]? with
    | none=>rw [List.getElem?_eq_none_iff] at hn;omega
    | some n =>
     simp only;rw [show ((a:Int)+1)=((a+1:Nat):Int) by omega];obtain ⟨e,I,G⟩:=ih.2 n.kids (a+1) d av;exact ⟨e,I,fun h=>⟨by have:=G h;omega,by omega⟩⟩
  ·cases ks with
   | nil=>rw [qP];exact ⟨_,rfl,fun _=>Int.le_refl _⟩
   | cons k r =>
    rw [qP];split
    ·rename_i hk;subst hk;rw [iK]
     obtain ⟨e,I,G⟩:=ih.1 next (d+1) av
     rw [I];simp only;split
     ·exact zfB
     ·rename_i h0;have h3:=G av;obtain ⟨m,rfl⟩:∃ m:Nat,e=(m:Int):=⟨e.toNat,by omega⟩;obtain ⟨e',h4,h5⟩:=ih.2 r m d av;exact ⟨e',h4,fun h=>by have:=h5 h;omega⟩
    ·exact zfB
def ij (Q:Fn->T->Prop):List Fn->Nat->List T->Prop
 | [],_,[]=>True
 | f::r,a,t::l=>f.body=(a:Int)/\Q f t/\ij Q r (a+aQ t) l
 | _,_,_=>False
theorem ij.len {Q:Fn->T->Prop}:∀ {fns:List Fn} {a:Nat} {l:List T},ij Q fns a l->fns.length=l.length
 | [],_,[],_=>rfl
 | f::r,a,t::l,h=>by rw [ij] at h;rw [length_cons,length_cons,ij.len h.2.2]
 | [],_,t::l,h=>by cases h
 | f::r,_,[],h=>by cases h
theorem ij.mono {Q R:Fn->T->Prop}:∀ {fns:List Fn} {a:Nat} {l:List T},ij Q fns a l->(∀ f t,f∈fns->t∈l->Q f t->R f t)->ij R fns a l
 | [],_,[],_,_=>trivial
 | f::r,a,t::l,h,hq=>by
  rw [ij] at h |-;exact ⟨h.1,hq _ _ mem_cons_self mem_cons_self h.2.1,ij.mono h.2.2 fun f t hf ht=>hq f t (dK _ hf) (dK _ ht)⟩
 | [],_,t::l,h,_=>by cases h
 | f::r,_,[],h,_=>by cases h
theorem ij.at_ {Q:Fn->T->Prop}:∀ {fns:List Fn} {a:Nat} {l:List T},ij Q fns a l->∀ (i:Nat) f t,fns[i]?=some f->l[i]?=some t->f.body=((a+aB (l.take i):Nat):Int)/\Q f t
 | [],_,[],_,i,f,t,I,G=>by simp at I
 | f::r,a,t::l,h,i,f',t',I,G=>by
  rw [ij] at h
  cases i with
  | zero=>cases I;cases G;rw [take_zero,aB];exact ⟨h.1,h.2.1⟩
  | succ i =>
   obtain ⟨k1,k2⟩:=ij.at_ h.2.2 i f' t' zgf zgq;exact ⟨by rw [k1,take_succ_cons,aB];omega,k2⟩
 | [],_,t::l,h,_,_,_,_,_=>by cases h
 | f::r,_,[],h,_,_,_,_,_=>by cases h
structure Ug (f:Fn) (t:T):Prop where
 name:bT f.name=true
 params:dA f.params=true
 kind:t.n.kind=14
 all:eo t=true
theorem CU {nodes:List Nd}:∀ (fns:List Fn) (next:Nat) (e:Int),jA nodes fns (next:Int)=some (some e)->∃ l,ey nodes next l/\ij Ug fns next l/\e=((next+aB l:Nat):Int)
 | [],next,e,h=>by rw [jA] at h;cases h;exact ⟨[],trivial,trivial,by simp [aB]⟩
 | f::r,next,e,h=>by
  rw [jA,iK] at h
  cases hn:rM nodes (fN nodes) next 0 with
  | none=>exact zeh
  | some e1 =>
   rw [hn] at h;simp only at h;split at h
   ·cases h
   ·rename_i hc;split at h
    ·cases h
    ·rename_i hp;obtain ⟨t,I,G⟩:=(MJ _).1 _ _ _ hn av;have hle:=ek.le t _ I;rw [(zm _).1 t next I zgF] at h;simp only at h;split at h
     ·cases h
     ·rename_i hk;subst G;obtain ⟨l,k1,k2,k3⟩:=CU r _ e h;refine ⟨t::l,by rw [ey];exact ⟨I,k1⟩,?_,by rw [k3,aB];omega⟩;rw [ij];refine ⟨by omega,⟨?_,?_,?_,?_⟩,k2⟩
      ·cases hq:bT f.name with
       | true=>rfl
       | false=>exact absurd (.inr (.inl hq)) hc
      ·simpa using hp
      ·exact Decidable.byContradiction fun hq=>hk (.inl hq)
      ·cases hq:eo t with
       | true=>rfl
       | false=>exact absurd (.inr hq) hk
theorem CT {nodes:List Nd} (hl:nodes.length<=800):∀ (fns:List Fn) (next:Nat) (l:List T),ey nodes next l->ij Ug fns next l->jA nodes fns (next:Int)=some (some ((next+aB l:Nat):Int))
 | [],next,[],_,_=>by rw [jA,aB];rfl
 | f::r,next,t::l,h,hf=>by
  rw [ey] at h;rw [ij] at hf;have hle:=ek.le t _ h.1;rw [jA,iK,(Ym hl _).1 t next 0 h.1 (aS _) zgF];simp only;rw [ab (by rw [hf.2.1.name];rintro (h | h | h);exact h hf.1;cases h;omega),ab (by rw [hf.2.1.params];decide),(zm _).1 t next h.1 zgF];simp only;rw [ab (by rw [hf.2.1.all];rintro (h | h);exact h hf.2.1.kind;cases h),CT hl r _ l h.2 hf.2.2,aB]
  congr 2;omega
 | [],_,t::l,_,h=>by cases h
 | f::r,_,[],_,h=>by cases h
theorem AD {nodes:List Nd}:∀ (fns:List Fn) (next:Nat),∃ r,jA nodes fns (next:Int)=some r
 | [],next=>⟨_,by rw [jA]⟩
 | f::r,next=>by
  obtain ⟨e,I,G⟩:=(Q4 (nodes:=nodes) (fN nodes)).1 next 0 zgF
  rw [jA,iK,I];simp only;split
  ·exact zfd
  ·rename_i hc;split
   ·exact zfd
   ·obtain ⟨t,k1,k2⟩:=(MJ _).1 _ _ _ I av;have hle:=ek.le t _ k1;rw [(zm _).1 t next k1 zgF];simp only;split
    ·exact zfd
    ·rw [k2];exact AD r _
theorem P8 (p:Src):∃ b,rD p=some b:=by
 unfold rD;split
 ·exact zfd
 ·split
  ·exact zfd
  ·obtain ⟨r,h⟩:=AD (nodes:=p.nodes) p.fns 0;rw [show ((0:Nat):Int)=0 from rfl] at h;rw [h]
   cases r <;> exact ⟨_,rfl⟩
structure jj (p:Src) (l:List T):Prop where
 globals:dA p.globals=true
 arrays:p.arrays.all rL=true
 st:ey p.nodes 0 l
 fns:ij Ug p.fns 0 l
 len:aB l=p.nodes.length
 few:p.nodes.length<=800
theorem Zm {p:Src} (h:rD p=some true):∃ l,jj p l:=by
 unfold rD at h;split at h
 ·cases h
 ·rename_i I;split at h
  ·cases h
  ·rename_i G;rw [show (0:Int)=((0:Nat):Int) from rfl] at h
   cases hf:jA p.nodes p.fns ((0:Nat):Int) with
   | none=>rw [hf] at h;cases h
   | some r =>
    rw [hf] at h
    cases r with
    | none=>cases h
    | some e =>
     obtain ⟨l,k1,k2,k3⟩:=CU _ _ _ hf;simp only [Option.some.injEq,aK,beq_iff_eq,decide_eq_true_eq] at h;exact ⟨l,by simpa using I,by simpa using G,k1,k2,by omega,by omega⟩
theorem jj.rD {p:Src} {l:List T} (h:jj p l):rD p=some true:=by
 unfold Go.Sp.rD;rw [ab (by rw [h.globals];decide),ab (by rw [h.arrays];decide),show (0:Int)=((0:Nat):Int) from rfl,CT h.few _ _ _ h.st h.fns];simp only [Option.some.injEq,aK,beq_iff_eq,decide_eq_true_eq];have:=h.len;have:=h.few;omega
theorem FG {nodes:List Nd}:∀ (fns:List Fn) (next:Nat) (acc l:List T) (e:Nat),jX nodes fns next acc=some (l,e)->∃ l',l=acc++l'/\ey nodes next l'/\ij (fun _ _=>True) fns next l'/\e=next+aB l'/\pF l'
 | [],next,acc,l,e,h=>by rw [jX] at h;cases h;exact ⟨[],by simp,trivial,trivial,by simp [aB],trivial⟩
 | f::r,next,acc,l,e,h=>by
  rw [jX] at h
  cases hq:tr nodes next with
  | none=>rw [hq] at h;cases h
  | some x =>
   obtain ⟨t,e1⟩:=x;rw [hq] at h;simp only at h;split at h
   ·rename_i hb;obtain ⟨a1,a2,a3⟩:=abj _ _ _ _ hq;subst a2;obtain ⟨l',b1,b2,b3,b4,b5⟩:=FG r _ _ _ _ h;exact ⟨t::l',by rw [b1];simp,by rw [ey];exact ⟨a1,b2⟩,by rw [ij];exact ⟨hb,trivial,b3⟩,by rw [b4,aB];omega,by rw [pF];exact ⟨a3,b5⟩⟩
   ·cases h
theorem Mx {nodes:List Nd} {Q:Fn->T->Prop}:∀ (fns:List Fn) (next:Nat) (acc l:List T),ey nodes next l->ij Q fns next l->pF l->jX nodes fns next acc=some (acc++l,next+aB l)
 | [],next,acc,[],_,_,_=>by rw [jX,aB];simp
 | f::r,next,acc,t::l,h,hf,ha=>by
  rw [ey] at h;rw [ij] at hf;rw [pF] at ha;have hle:=ek.le t _ h.1;rw [jX,tr,abp _ t next h.1 ha.1 av];simp only;rw [ah hf.1,Mx r _ _ l h.2 hf.2.2 ha.2,aB];simp [iJ]
 | [],_,_,t::l,_,h,_=>by cases h
 | f::r,_,_,[],_,h,_=>by cases h
mutual
theorem ek.fl {nodes:List Nd}:∀ (t:T) (a:Nat),ek nodes a t->(nodes.take (a+aQ t)).drop a=jJ a t
 | .mk n l,a,h=>by
  have hle:=ek.le _ _ h;rw [ek] at h;rw [aQ] at hle;have I:=ey.fl l (a+1) h.2.2 (by have:=(bB h.1).1;omega);rw [jJ,<-h.2.1,<-I,aQ,show a+(aB l+1)=a+1+aB l by omega]
  have G:(nodes.take (a+1+aB l))[a]?=some n:=by rw [getElem?_take,ah av];exact h.1
  obtain ⟨h3,h4⟩:=bB G;rw [n5 h3,h4]
theorem ey.fl {nodes:List Nd}:∀ (l:List T) (a:Nat),ey nodes a l->a<=nodes.length->(nodes.take (a+aB l)).drop a=eD a l
 | [],a,h,ha=>by
  rw [eD];exact ig (by rw [aB,lE,gE];omega)
 | t::r,a,h,ha=>by
  rw [ey] at h;have hle:=ek.le _ _ h.1;have I:=ek.fl t a h.1;have G:=ey.fl r (a+aQ t) h.2 hle;have DC:=ey.le r _ h.2 hle;rw [eD,<-I,<-G,aB,show a+(aQ t+aB r)=a+aQ t+aB r by omega]
  have h3:nodes.take (a+aQ t)=(nodes.take (a+aQ t+aB r)).take (a+aQ t):=by rw [List.take_take,Nat.min_eq_left av]
  rw [h3];generalize hm:nodes.take (a+aQ t+aB r)=m
  have dS:m.length=a+aQ t+aB r:=by rw [<-hm,gE];omega
  rw [<-List.drop_append_of_le_length zgA,take_append_drop]
end
theorem ey.all {nodes:List Nd} {l:List T} (h:ey nodes 0 l) (hl:aB l=nodes.length):nodes=eD 0 l:=by
 have:=ey.fl l 0 h (aS _);rw [dJ,hl,c7,List.drop_zero] at this;exact this
def sn (n:Int):ae:=if n < 0 then 45::iD n.natAbs else iD n.toNat
def vw (s:ae):Int:=match levels.findIdx? (fun l=>l.contains s) with | some i=>(i:Int) | none => -1
def yz (b:Bool) (x:ae):ae:=if b=true then (40::x)++[41] else x
def pL (t:T) (least:Int):Bool:=(t.n.kind==6)&&decide (vw t.n.s < least)
def xV (n:Nd) (l:List T) (x:List ae):ae :=
 if n.kind=1 then sn n.n
 else if n.kind=3 then ((n.s++[91])++x.getD 0 [])++[93]
 else if n.kind=4 then ((n.s++[40])++cM x)++[41]
 else if n.kind=5 then (n.s++[32])++(match l with | a::_=>yz (a.n.kind==6) (x.getD 0 []) | []=>[])
 else if n.kind=6 then (match l with
  | a::b::_=>(((yz (pL a (vw n.s)) (x.getD 0 [])++[32])++n.s)++[32])++yz (pL b (vw n.s+1)) (x.getD 1 [])
  | _=>[])
 else n.s
mutual
def ed:T->ae
 | .mk n l=>xV n l (iZ l)
def iZ:List T->List ae
 | []=>[]
 | t::r=>ed t::iZ r
end
theorem TC (t:T):ed t=xV t.n t.kids (iZ t.kids):=by cases t;rw [ed];rfl
theorem Gu (l:List T):iZ l=l.map ed:=by
 induction l with
 | nil=>rfl
 | cons t l ih=>rw [iZ,ih];rfl
mutual
def nE:T->Nat
 | .mk n l=>n.s.length+60+jG l
def jG:List T->Nat
 | []=>0
 | t::r=>nE t+jG r
end
theorem sf (t:T):nE t=t.n.s.length+60+jG t.kids:=by cases t;rw [nE];rfl
theorem xp {l:List T} {t:T} (h:t∈l):nE t<=jG l:=by
 induction l with
 | nil=>cases h
 | cons a l ih =>
  rw [jG]
  rcases fh h with rfl | h
  ·omega
  ·have:=ih h;omega
theorem VC (l:List T):l.length * 60<=jG l:=by
 induction l with
 | nil=>simp
 | cons t l ih=>rw [jG,sf,length_cons];omega
theorem G1 {n:Nat} (h:n < 100000000000000000000):(iD n).length<=20:=MG 19 n zgc
theorem BB {n:Int} (h : -9223372036854775808<=n/\n<=9223372036854775807):(sn n).length<=21:=by
 unfold sn;split
 ·have:=G1 (n:=n.natAbs) av;simp only [length_cons];omega
 ·have:=G1 (n:=n.toNat) av;omega
theorem B8 (b:Bool) (x:ae):(yz b x).length<=x.length+2:=by
 unfold yz;split <;> simp
theorem Jx:∀ (r:List ae),(r.flatMap fun y=>44::32::y).length=(r.map fun y=>y.length+2).sum
 | []=>rfl
 | z::r=>by
  have:=Jx r;simp only [flatMap_cons,aL,List.map_cons,sum_cons,length_cons] at this |-;omega
theorem DL:∀ (x:List ae),(cM x).length<=(x.map fun y=>y.length+2).sum
 | []=>by simp [cM]
 | y::r=>by
  have h:=Jx r;rw [List.map_cons,sum_cons,cM,aL,h];omega
mutual
def uJ:T->Prop
 | .mk n l=>(-9223372036854775808<=n.n/\n.n<=9223372036854775807)/\u5 l
def u5:List T->Prop
 | []=>True
 | t::r=>uJ t/\u5 r
end
theorem uK (t:T):uJ t↔(-9223372036854775808<=t.n.n/\t.n.n<=9223372036854775807)/\u5 t.kids:=by cases t;rw [uJ];exact Iff.rfl
theorem mI {l:List T} {t:T} (h:u5 l) (ht:t∈l):uJ t:=by
 induction l with
 | nil=>cases ht
 | cons a l ih =>
  rw [u5] at h
  rcases fh ht with rfl | ht
  ·exact h.1
  ·exact ih h.2 ht
theorem zp:∀ (N:Nat) (t:T),aQ t<=N->uJ t->(ed t).length+4<=nE t:=by
 intro N
 induction N with
 | zero=>intro t h;rw [fH] at h;omega
 | succ N ih =>
  intro t hN hn;rw [fH] at hN;rw [uK] at hn
  have hk:∀ a∈t.kids,(ed a).length+4<=nE a:=fun a ha=>by
   refine ih a ?_ (mI hn.2 ha)
   have:∀ (l:List T),a∈l->aQ a<=aB l:=by
    intro l
    induction l with
    | nil=>intro h;cases h
    | cons b l ih2 =>
     intro h;rw [aB]
     rcases fh h with rfl | h
     ·omega
     ·have:=ih2 h;omega
   have:=this _ ha;omega
  have aeC:((iZ t.kids).map fun y=>y.length+2).sum<=jG t.kids:=by
   have:∀ (l:List T),(∀ a∈l,(ed a).length+4<=nE a)->((iZ l).map fun y=>y.length+2).sum<=jG l:=by
    intro l
    induction l with
    | nil=>intro _;simp [iZ]
    | cons a l ih2 =>
     intro h;have I:=h a (mem_cons_self)
     have G:=ih2 fun b hb=>h b (dK _ hb)
     rw [iZ,jG,List.map_cons,sum_cons];omega
   exact this _ hk
  have h0:((iZ t.kids).getD 0 []).length<=jG t.kids:=by
   cases hl:t.kids with
   | nil=>simp [iZ]
   | cons a r =>
    have:=hk a (by rw [hl];exact mem_cons_self);rw [iZ,jG];simp;omega
  have h01:∀ a b r,t.kids=a::b::r->((iZ t.kids).getD 0 []).length+((iZ t.kids).getD 1 []).length+8<=jG t.kids:=fun a b r hl=>by
   have I:=hk a (by rw [hl];exact mem_cons_self);have G:=hk b (by rw [hl];exact dK _ mem_cons_self);rw [hl,iZ,iZ,jG,jG];simp;omega
  rw [TC,sf];unfold xV;split
  ·have:=BB hn.1;omega
  ·split
   ·exact zad
   ·split
    ·have:=DL (iZ t.kids);exact zad
    ·split
     ·cases hl:t.kids with
      | nil=>simp <;> omega
      | cons a r =>
       simp only [aL,length_cons,length_nil];have:=B8 (a.n.kind==6) ((iZ (a::r)).getD 0 []);rw [hl] at h0;omega
     ·split
      ·match hl:t.kids with
       | []=>simp <;> omega
       | [a]=>simp <;> omega
       | a::b::r =>
        have I:=h01 a b r hl;rw [hl] at I;have G:=B8 (pL a (vw t.n.s)) ((iZ (a::b::r)).getD 0 []);have h3:=B8 (pL b (vw t.n.s+1)) ((iZ (a::b::r)).getD 1 []);exact zad
      ·omega
def AP (own:ae) (n:Nd) (k:Nat) (x b:List ae):ae :=
 if n.kind=13 then ((([118,97,114,32]++n.s)++[32,61,32])++x.getD 0 [])++[59]
 else if n.kind=7 then ((n.s++[32,61,32])++x.getD 0 [])++[59]
 else if n.kind=8 then ((((n.s++[91])++x.getD 0 [])++[93,32,61,32])++x.getD 1 [])++[59]
 else if n.kind=9 then (if k=3 then ((([105,102,32,40]++x.getD 0 [])++[41,32])++b.getD 1 [])++([32,101,108,115,101,32]++b.getD 2 []) else (([105,102,32,40]++x.getD 0 [])++[41,32])++b.getD 1 [])
 else if n.kind=10 then (([119,104,105,108,101,32,40]++x.getD 0 [])++[41,32])++b.getD 1 []
 else if n.kind=11 then ([114,101,116,117,114,110,32]++x.getD 0 [])++[59]
 else if n.kind=12 then x.getD 0 []++[59]
 else own
section
variable (tx:T->ae) (inl:List ae->Nat->ae)
mutual
def nh:Nat->T->ae
 | d,.mk n l=>AP (tx (.mk n l)) n l.length (l.map tx) (tB d l)
def tB:Nat->List T->List ae
 | _,[]=>[]
 | d,t::r=>qC d t::tB d r
def qC:Nat->T->ae
 | d,.mk n l=>inl (AO (d+1) l) d
def AO:Nat->List T->List ae
 | _,[]=>[]
 | d,t::r=>nh d t::AO d r
end
end
theorem Tu (tx:T->ae) (inl:List ae->Nat->ae) (d:Nat) (t:T):nh tx inl d t=AP (tx t) t.n t.kids.length (t.kids.map tx) (tB tx inl d t.kids):=by cases t;rw [nh];rfl
theorem QF (tx:T->ae) (inl:List ae->Nat->ae) (d:Nat) (t:T):qC tx inl d t=inl (AO tx inl (d+1) t.kids) d:=by cases t;rw [qC];rfl
theorem Mw (tx:T->ae) (inl:List ae->Nat->ae) (d:Nat) (l:List T):tB tx inl d l=l.map (qC tx inl d):=by
 induction l with
 | nil=>rfl
 | cons t l ih=>rw [tB,ih];rfl
theorem N5 (tx:T->ae) (inl:List ae->Nat->ae) (d:Nat) (l:List T):AO tx inl d l=l.map (nh tx inl d):=by
 induction l with
 | nil=>rfl
 | cons t l ih=>rw [AO,ih];rfl
def vG (acc:ae) (l:List ae):ae:=l.foldl (fun acc s=>acc++(s++[32])) acc
def iG (l:List ae) (d:Nat):ae:=vG [123,32] l++[125]
def nH:List ae->Nat
 | []=>0
 | s::l=>s.length+1+nH l
theorem wF (l:List ae):∀ acc,(vG acc l).length=acc.length+nH l:=by
 induction l with
 | nil=>intro acc;simp [vG,nH]
 | cons s l ih =>
  intro acc;have:=ih (acc++(s++[32]));simp only [vG,foldl_cons,nH,aL,length_cons,length_nil] at this |-;omega
theorem K7 (a b:List ae):nH (a++b)=nH a+nH b:=by
 induction a with
 | nil=>simp [nH]
 | cons s a ih=>simp only [cons_append,nH,ih];omega
theorem Tx (l:List ae) (k:Nat):nH (l.take k)<=nH l:=by
 have:nH l=nH (l.take k)+nH (l.drop k):=by rw [<-K7,take_append_drop]
 omega
theorem QL (acc:ae) (l:List ae) (s:ae):vG acc (l++[s])=vG acc l++(s++[32]):=by simp [vG]
theorem Zo {l:List ae} {s:ae} (h:s∈l):s.length<=nH l:=by
 induction l with
 | nil=>cases h
 | cons a l ih =>
  rw [nH]
  rcases fh h with rfl | h
  ·omega
  ·have:=ih h;omega
theorem Vi {l:List ae} {d:Nat} {s:ae} (h:s∈l):s.length<=(iG l d).length:=by
 have I:=Zo h;have G:=wF l [123,32];unfold iG;rw [aL,G];omega
def g1 (s:ae):ae:=([105,110,116,32]++s)++[59,10]
def a1 (a:Ar):ae:=((([105,110,116,32]++a.name)++[91])++sn a.size)++[93,59,10]
def ef (tx:T->ae) (inl:List ae->Nat->ae) (x:Fn × T):ae:=((((([102,117,110,99,32]++x.1.name)++[40])++cM x.1.params)++[41,32])++qC tx inl 0 x.2)++[10]
def eB {α:Type} (f:α->ae):ae->List α->ae
 | acc,[]=>acc
 | acc,x::l=>eB f (acc++f x) l
theorem AY {α:Type} (f:α->ae) (l:List α) (x:α):∀ acc,eB f acc (l++[x])=eB f acc l++f x:=by
 induction l with
 | nil=>intro acc;rfl
 | cons y l ih=>intro acc;simp only [cons_append,eB];exact ih _
theorem UA {α:Type} (f:α->ae) (l k:List α):∀ acc,eB f acc (l++k)=eB f (eB f acc l) k:=by
 induction l with
 | nil=>intro acc;rfl
 | cons y l ih=>intro acc;simp only [cons_append,eB];exact ih _
theorem FI {α:Type} (f:α->ae) (l:List α):∀ acc,acc.length<=(eB f acc l).length:=by
 induction l with
 | nil=>intro acc;exact aI _
 | cons y l ih=>intro acc;have:=ih (acc++f y);rw [eB];rw [aL] at this;omega
theorem AZ {α:Type} (f:α->ae) (l:List α) (k:Nat) (acc:ae):(eB f acc (l.take k)).length<=(eB f acc l).length:=by
 have:eB f acc l=eB f (eB f acc (l.take k)) (l.drop k):=by rw [<-UA,take_append_drop]
 rw [this];exact FI f _ _
def qz (tx:T->ae) (inl:List ae->Nat->ae) (p:Src) (trees:List T):ae:=eB (ef tx inl) (eB a1 (eB g1 [] p.globals) p.arrays) (p.fns.zip trees)
end Go.Im
namespace Go.Im
def gV {α:Type} (p:α->α->Bool):List α->List α->Bool
 | [],[]=>true
 | a::r,b::s=>p a b&&gV p r s
 | _,_=>false
theorem Ce {α:Type} {p:α->α->Bool}:∀ {a b:List α},gV p a b=true->a.length=b.length
 | [],[],_=>rfl
 | a::r,b::s,h=>by rw [gV,aK] at h;rw [length_cons,length_cons,Ce h.2]
 | [],b::s,h=>by cases h
 | a::r,[],h=>by cases h
theorem vg {α:Type} {p:α->α->Bool} {a b:List α} (h:a.length≠b.length):gV p a b=false:=by
 cases hc:gV p a b with
 | false=>rfl
 | true=>exact absurd (Ce hc) h
theorem I6 {α:Type} {p:α->α->Bool}:∀ {a b:List α} {k:Nat} {x y:α},a[k]?=some x->b[k]?=some y->gV p a b=true->p x y=true
 | a::r,b::s,0,x,y,I,G,h=>by cases I;cases G;rw [gV,aK] at h;exact h.1
 | a::r,b::s,k+1,x,y,I,G,h=>by rw [gV,aK] at h;exact I6 zgf zgq h.2
 | [],_,k,x,y,I,G,h=>by simp at I
 | a::r,[],k,x,y,I,G,h=>by simp at G
theorem vh {α:Type} {p:α->α->Bool} {a b:List α} {k:Nat} {x y:α} (I:a[k]?=some x) (G:b[k]?=some y) (h:p x y=false):gV p a b=false:=by
 cases hc:gV p a b with
 | false=>rfl
 | true=>have:=I6 I G hc;rw [h] at this;cases this
theorem MK {α:Type} {p:α->α->Bool}:∀ {a b:List α},a.length=b.length->(∀ (k:Nat) x y,a[k]?=some x->b[k]?=some y->p x y=true)->gV p a b=true
 | [],[],_,_=>rfl
 | a::r,b::s,hl,h=>by
  rw [gV,h 0 a b rfl rfl,MK zge fun k x y I G=>h (k+1) x y zgf zgq];rfl
 | [],b::s,hl,h=>by simp at hl
 | a::r,[],hl,h=>by simp at hl
def wI {α:Type} (p:α->α->Bool) (a b:List α) (k:Nat):Prop:=∀ j x y,j < k->a[j]?=some x->b[j]?=some y->p x y=true
theorem px {α:Type} {p:α->α->Bool} {a b:List α} {k:Nat} {x y:α} (I:a[k]?=some x) (G:b[k]?=some y) (h:wI p a b k) (hp:p x y=true):wI p a b (k+1):=fun j u v hj h3 h4=>by
 by_cases he:j=k
 ·subst he;rw [I] at h3;rw [G] at h4;cases h3;cases h4;exact hp
 ·exact h j u v av h3 h4
theorem qQ {α:Type} {p:α->α->Bool} {a b:List α} (hl:a.length=b.length) (h:wI p a b a.length):gV p a b=true :=
 MK hl fun k x y I G=>h k x y (bB I).1 I G
def u6 (a b:Go.Sp.Fn):Bool:=((a.name==b.name)&&gV (fun x y=>x==y) a.params b.params)&&(a.body==b.body)
def nY (a b:Go.Xp.Nd):Bool:=(((a.kind==b.kind)&&(a.n==b.n))&&(a.s==b.s))&&gV (fun x y=>x==y) a.kids b.kids
def CP (x y:Go.Xp.Ar):Bool:=(x.name==y.name)&&(x.size==y.size)
open Go.Xp Go.Sp
theorem MO (l:List T):(bf l).length=l.length:=by rw [wb,bM]
theorem A3 (t:T):(er t).n=⟨t.n.kind,0,t.n.n,t.n.s,[]⟩:=by cases t;rw [er];rfl
theorem Yn (t:T):(er t).kids=bf t.kids:=by cases t;rw [er];rfl
mutual
theorem zo:∀ t:T,aQ (er t)=aQ t
 | .mk n l=>by rw [er,aQ,aQ,zn l]
theorem zn:∀ l:List T,aB (bf l)=aB l
 | []=>by rw [bf]
 | t::r=>by rw [bf,aB,aB,zo t,zn r]
end
theorem Ht (m:Nat):∀ (l:List T) (i:Nat),bP m i (bf l)=bP m i l
 | [],i=>by rw [bf]
 | t::r,i=>by rw [bf,bP,bP,Ht m r (i+1),A3]
theorem HU:∀ (l:List T),(bf l).all (fun x=>kl x.n.kind)=l.all (fun x=>kl x.n.kind)
 | []=>by rw [bf]
 | t::r=>by rw [bf,all_cons,all_cons,HU r,A3]
theorem aa4 (n:Nd) (k:Nat) (kd:Nat->Bool) (bl:Bool) (h:0<=n.at_) (h':own ⟨n.kind,0,n.n,n.s,[]⟩ k kd bl=true):own n k kd bl=true:=by
 unfold own at h' |-;rw [ab zf8] at h';rw [ab zgc];exact h'
mutual
theorem QB:∀ t:T,eo (er t)=true->AU t->eo t=true
 | .mk n l,h,ha=>by
  rw [er,eo,aK] at h;rw [AU] at ha;rw [eo,aK];refine ⟨Mt l h.1 ha.2,?_⟩;have G:own ⟨n.kind,0,n.n,n.s,[]⟩ (bf l).length (fun m=>bP m 0 (bf l)) ((bf l).all fun x=>kl x.n.kind)=true:=h.2;rw [MO,HU] at G;simp only [Ht] at G;exact aa4 n _ _ _ ha.1 G
theorem Mt:∀ l:List T,dd (bf l)=true->pF l->dd l=true
 | [],_,_=>rfl
 | t::r,h,ha=>by
  rw [bf,dd,aK] at h;rw [pF] at ha;rw [dd,aK];exact ⟨QB t h.1 ha.1,Mt r h.2 ha.2⟩
end
mutual
theorem QA:∀ t:T,eo t=true->AU t
 | .mk n l,h=>by
  rw [eo,aK] at h;rw [AU];refine ⟨?_,Ms l h.1⟩;have G:own n l.length (fun m=>bP m 0 l) (l.all fun x=>kl x.n.kind)=true:=h.2
  by_cases h0:n.at_ < 0
  ·unfold own at G;rw [ah zgN] at G;cases G
  ·omega
theorem Ms:∀ l:List T,dd l=true->pF l
 | [],_=>trivial
 | t::r,h=>by
  rw [dd,aK] at h;rw [pF];exact ⟨QA t h.1,Ms r h.2⟩
end
theorem nP (a:E):qi a.tree.n.kind=true:=by cases a <;> rfl
mutual
theorem E.iV:∀ a:E,a.ok=true->eo a.tree=true
 | .num n,h=>by
  simp only [E.ok,aK] at h;rw [E.tree,eo,dd];simp [cQ,own,T.n,T.kids];exact h
 | .name s,h=>by
  simp only [E.ok] at h;rw [E.tree,eo,dd];simp [cQ,own,T.n,T.kids,h]
 | .at_ s a,h=>by
  simp only [E.ok,aK] at h;have G:=E.iV a h.2;have h3:=nP a;rw [E.tree,eo,dd,dd,G];simp [cQ,own,T.n,T.kids,h.1,bP];exact h3
 | .call s l,h=>by
  simp only [E.ok,aK] at h;obtain ⟨G,h3⟩:=E.vB l h.2;rw [E.tree,eo,G];have:=h3 (E.trees l).length 0 av;simp [cQ,own,T.n,T.kids,h.1,this]
 | .un s a,h=>by
  simp only [E.ok,aK] at h;have G:=E.iV a h.2;have h3:=nP a;rw [E.tree,eo,dd,dd,G];simp [cQ,own,T.n,T.kids,bP];exact ⟨by simpa using h.1,h3⟩
 | .bin s a b,h=>by
  simp only [E.ok,aK] at h;have G:=E.iV a h.1.2;have h3:=nP a;have h4:=E.iV b h.2;have h5:=nP b;rw [E.tree,eo,dd,dd,dd,G,h4];simp [cQ,own,T.n,T.kids,bP,h.1.1];exact ⟨h3,h5⟩
theorem E.vB:∀ l:List E,E.dT l=true->dd (E.trees l)=true/\∀ m i,i+(E.trees l).length<=m->bP m i (E.trees l)=true
 | [],_=>⟨rfl,fun m i _=>rfl⟩
 | a::l,h=>by
  simp only [E.dT,aK] at h;obtain ⟨G,h3⟩:=E.vB l h.2;refine ⟨by rw [E.trees,dd,E.iV a h.1,G];rfl,fun m i hm=>?_⟩;rw [E.trees,length_cons] at hm;rw [E.trees,bP,ah av,nP a,h3 m (i+1) av];rfl
end
theorem aba (a:S):kl a.tree.n.kind=true:=by cases a <;> rfl
mutual
theorem S.iV:∀ a:S,a.ok=true->eo a.tree=true
 | .set s a,h=>by
  exact zcw
 | .var s a,h=>by
  exact zcw
 | .ret a,h=>by
  exact zcJ
 | .do_ a,h=>by
  exact zcJ
 | .put s a b,h=>by
  simp only [S.ok,aK] at h;have G:=E.iV a h.2.1;have h3:=nP a;have h4:=E.iV b h.2.2;have h5:=nP b;rw [S.tree,eo,dd,dd,dd,G,h4];simp [cQ,own,T.n,T.kids,bP,h.1];exact ⟨h3,h5⟩
 | .if1 c b,h=>by
  exact zb3
 | .if2 c b b2,h=>by
  simp only [S.ok,aK] at h;have G:=E.iV c h.1;have h3:=nP c;have h4:=S.yy b h.2.1;have h5:=S.yy b2 h.2.2;rw [S.tree,eo,dd,dd,dd,dd,G,h4,h5];simp [cQ,own,T.n,T.kids,bP];exact h3
 | .while_ c b,h=>by
  exact zb3
theorem S.yy:∀ l:List S,S.dT l=true->eo (.mk ⟨14,0,0,[],[]⟩ (S.trees l))=true
 | l,h=>by
  obtain ⟨I,G⟩:=S.vB l h;have h3:cQ (.mk ⟨14,0,0,[],[]⟩ (S.trees l))=own ⟨14,0,0,[],[]⟩ (S.trees l).length (fun m=>bP m 0 (S.trees l)) ((S.trees l).all fun x=>kl x.n.kind):=rfl;rw [eo,I,h3,G];simp [own]
theorem S.vB:∀ l:List S,S.dT l=true->dd (S.trees l)=true/\(S.trees l).all (fun x=>kl x.n.kind)=true
 | [],_=>⟨rfl,rfl⟩
 | a::l,h=>by
  simp only [S.dT,aK] at h;obtain ⟨I,G⟩:=S.vB l h.2;exact ⟨by rw [S.trees,dd,S.iV a h.1,I];rfl,by rw [S.trees,all_cons,G,aba a];rfl⟩
end
theorem acC {n:Nd} {k:Nat} {kd:Nat->Bool} {bl:Bool} (h:own n k kd bl=true):ep n.kind k=true:=by
 have hc:n.kind=1\/n.kind=2\/n.kind=3\/n.kind=4\/n.kind=5\/n.kind=6\/n.kind=7\/n.kind=8\/n.kind=9\/n.kind=10\/n.kind=11\/n.kind=12\/n.kind=13\/n.kind=14\/(n.kind < 1\/14 < n.kind):=by omega
 unfold own at h
 by_cases h0:decide (n.at_ < 0)=true
 ·rw [ah h0] at h;cases h
 rw [ab h0] at h
 by_cases I:(n.kind != 1&&n.n != 0)=true
 ·rw [ah I] at h;cases h
 rw [ab I] at h;clear h0 I
 rcases hc with hk | hk | hk | hk | hk | hk | hk | hk | hk | hk | hk | hk | hk | hk | hk
 all_goals (first | (simp [hk] at h;simp [ep,hk];done) | (simp [hk] at h;simp [ep,hk];omega) | (simp [hk] at h;simp [ep,hk,h];done) | skip)
 ·exfalso
  have e1:(n.kind==1)=false:=by simp;omega
  have e2:(n.kind==2)=false:=by simp;omega
  have e3:(n.kind==3)=false:=by simp;omega
  have e4:(n.kind==4)=false:=by simp;omega
  have e5:(n.kind==5)=false:=by simp;omega
  have e6:(n.kind==6)=false:=by simp;omega
  have e7:(n.kind==7)=false:=by simp;omega
  have e8:(n.kind==8)=false:=by simp;omega
  have e9:(n.kind==9)=false:=by simp;omega
  have e10:(n.kind==10)=false:=by simp;omega
  have e11:(n.kind==11)=false:=by simp;omega
  have e12:(n.kind==12)=false:=by simp;omega
  have e13:(n.kind==13)=false:=by simp;omega
  have e14:(n.kind==14)=false:=by simp;omega
  rw [e1,e2,e3,e4,e5,e6,e7,e8,e9,e10,e11,e12,e13,e14] at h;simp at h
mutual
theorem Wv:∀ t:T,eo t=true->j0 t=true
 | .mk n l,h=>by
  rw [eo,aK] at h;rw [j0,QC l h.1,Bool.and_true];exact acC h.2
theorem QC:∀ l:List T,dd l=true->DM l=true
 | [],_=>rfl
 | t::r,h=>by
  rw [dd,aK] at h;rw [DM,Wv t h.1,QC r h.2];rfl
end
theorem VD (t:T) (z:Int):pL (er t) z=pL t z:=by unfold pL;rw [A3]
theorem Zv (n:Nd) (l:List T) (x:List ae):xV ⟨n.kind,0,n.n,n.s,[]⟩ (bf l) x=xV n l x:=by
 unfold xV
 match l with
 | []=>rw [bf]
 | [a]=>rw [bf,bf];simp only [A3]
 | a::b::r=>rw [bf,bf];simp only [A3,VD]
mutual
theorem TD:∀ t:T,ed (er t)=ed t
 | .mk n l=>by rw [er,ed,ed,Gt l,Zv]
theorem Gt:∀ l:List T,iZ (bf l)=iZ l
 | []=>by rw [bf]
 | t::r=>by rw [bf,iZ,iZ,TD t,Gt r]
end
mutual
theorem abg (inl:List ae->Nat->ae):∀ (t:T) (d:Nat),nh ed inl d (er t)=nh ed inl d t
 | .mk n l,d=>by
  have h:=TD (.mk n l);rw [er] at h |-;rw [nh,nh,h,Mv inl l d,MO]
  have:(bf l).map ed=l.map ed:=by rw [<-Gu,<-Gu,Gt]
  rw [this];rfl
theorem Mv (inl:List ae->Nat->ae):∀ (l:List T) (d:Nat),tB ed inl d (bf l)=tB ed inl d l
 | [],d=>by rw [bf]
 | t::r,d=>by rw [bf,tB,tB,QG inl t d,Mv inl r d]
theorem QG (inl:List ae->Nat->ae):∀ (t:T) (d:Nat),qC ed inl d (er t)=qC ed inl d t
 | .mk n l,d=>by rw [er,qC,qC,N4 inl l (d+1)]
theorem N4 (inl:List ae->Nat->ae):∀ (l:List T) (d:Nat),AO ed inl d (bf l)=AO ed inl d l
 | [],d=>by rw [bf]
 | t::r,d=>by rw [bf,AO,AO,abg inl t d,N4 inl r d]
end
theorem SY {s:ae} (h:jc s=true):vw s=(fw s:Int):=by
 unfold vw fw
 cases hf:levels.findIdx? (fun l=>l.contains s) with
 | some i=>rfl
 | none =>
  rw [List.findIdx?_eq_none_iff] at hf;unfold jc at h;rw [sw] at h;obtain ⟨l,I,G⟩:=h;have:=hf l I;rw [G] at this;cases this
theorem NB {a:E} (h:a.ok=true) (k:Nat) (hk:k<=9):pL a.tree (k:Int)=decide (a.lv < k):=by
 have key:∀ b:Bool,(false&&b)=decide (9 < k):=fun b=>by rw [Bool.false_and,decide_eq_false av]
 cases a with
 | bin s x y =>
  simp only [E.ok,aK] at h;show (true&&decide (vw s < (k:Int)))=decide (fw s < k);rw [SY h.1.1,Bool.true_and];exact decide_eq_decide.2 av
 | num n=>exact key _
 | name n=>exact key _
 | at_ s a=>exact key _
 | call s l=>exact key _
 | un s a=>exact key _
theorem FH (lv k:Nat) (x:ae):yz (decide (lv < k)) x=uc lv k x:=by
 unfold yz uc
 by_cases h:lv < k
 ·rw [ah zgc,ah h]
 ·rw [ab zgc,ab h]
theorem ZT {a:E} (h:a.ok=true):(a.tree.n.kind==6)=decide (a.lv < 9):=by
 cases a with
 | bin s x y =>
  simp only [E.ok,aK] at h;have:=(s9 h.1.1).1;show true=decide (fw s < 9);exact (decide_eq_true this).symm
 | _=>rfl
mutual
theorem lZ:∀ a:E,a.ok=true->ed a.tree=a.bK
 | .num n,h=>by
  simp only [E.ok,aK,decide_eq_true_eq] at h;rw [E.tree,ed,E.bK];unfold xV sn;simp only [if_true];rw [ab av]
 | .name s,h=>by
  rw [E.tree,ed,E.bK];simp [xV]
 | .at_ s a,h=>by
  simp only [E.ok,aK] at h;have G:=lZ a h.2;rw [E.tree,ed,iZ,iZ,G,E.bK];simp [xV]
 | .call s l,h=>by
  simp only [E.ok,aK] at h;rw [E.tree,ed,Oc l h.2,E.bK];simp [xV]
 | .un s a,h=>by
  simp only [E.ok,aK] at h;have G:=lZ a h.2;rw [E.tree,ed,iZ,iZ,G,E.bK,<-FH,<-ZT h.2];simp [xV]
 | .bin s a b,h=>by
  simp only [E.ok,aK] at h;have G:=lZ a h.1.2;have h3:=lZ b h.2;have hl:=(s9 h.1.1).1;have e1:=NB h.1.2 (fw s) av;have e2:=NB h.2 (fw s+1) av;rw [E.tree,ed,iZ,iZ,iZ,G,h3,E.bK,<-FH,<-FH,<-e1,<-e2];unfold xV;simp only [SY h.1.1];simp
theorem Oc:∀ l:List E,E.dT l=true->iZ (E.trees l)=E.dR l
 | [],_=>rfl
 | a::l,h=>by
  simp only [E.dT,aK] at h;rw [E.trees,iZ,E.dR,lZ a h.1,Oc l h.2]
end
theorem GY (x:E->ae):∀ (l:List S) (acc:ae),vG acc (l.map (S.bK x))=S.dR x acc l
 | [],acc=>by rw [S.dR];rfl
 | a::l,acc=>by
  rw [S.dR,<-GY x l];simp [vG,eF]
mutual
theorem Zl:∀ (s:S),s.ok=true->∀ d,nh ed iG d s.tree=s.bK E.bK
 | .set s a,h,d=>by
  exact zed
 | .var s a,h,d=>by
  exact zed
 | .ret a,h,d=>by
  exact zes
 | .do_ a,h,d=>by
  exact zes
 | .put s a b,h,d=>by
  simp only [S.ok,aK] at h;rw [S.tree,nh,List.map_cons,List.map_cons,lZ a h.2.1,lZ b h.2.2,S.bK];simp [AP]
 | .if1 c b,h,d=>by
  exact zcK
 | .if2 c b b2,h,d=>by
  simp only [S.ok,aK] at h;have hb:=yx b h.2.1 d;have eM:=yx b2 h.2.2 d;rw [S.tree,nh,List.map_cons,lZ c h.1,tB,tB,tB,tB,hb,eM,S.bK];simp [AP,ik]
 | .while_ c b,h,d=>by
  exact zcK
theorem yx:∀ (l:List S),S.dT l=true->∀ d,qC ed iG d (.mk ⟨14,0,0,[],[]⟩ (S.trees l))=ik E.bK l
 | l,h,d=>by
  rw [qC,N6 l h (d+1),iG,GY];rfl
theorem N6:∀ (l:List S),S.dT l=true->∀ d,AO ed iG d (S.trees l)=l.map (S.bK E.bK)
 | [],_,d=>by rw [S.trees,AO];rfl
 | a::l,h,d=>by
  simp only [S.dT,aK] at h;rw [S.trees,AO,List.map_cons,Zl a h.1,N6 l h.2]
end
theorem uz {α:Type} {p:α->α->Bool} (h:∀ x,p x x=true):∀ l:List α,gV p l l=true
 | []=>rfl
 | a::l=>by rw [gV,h a,uz h l];rfl
theorem Cd {α:Type} [BEq α] [LawfulBEq α]:∀ {a b:List α},gV (fun x y=>x==y) a b=true->a=b
 | [],[],_=>rfl
 | a::r,b::s,h=>by rw [gV,aK,beq_iff_eq] at h;rw [h.1,Cd h.2]
 | [],b::s,h=>by cases h
 | a::r,[],h=>by cases h
theorem ML {α:Type} {p:α->α->Bool}:∀ {a b:List α} {c d:List α},a.length=b.length->gV p (a++c) (b++d)=(gV p a b&&gV p c d)
 | [],[],c,d,_=>rfl
 | a::r,b::s,c,d,h=>by rw [cons_append,cons_append,gV,gV,ML zgc,Bool.and_assoc]
 | [],b::s,_,_,h=>by simp at h
 | a::r,[],_,_,h=>by simp at h
theorem zY:∀ (l:List T) (a:Nat),bJ a (bf l)=bJ a l
 | [],a=>by rw [bf]
 | t::r,a=>by rw [bf,bJ,bJ,zo,zY r]
mutual
theorem Yr:∀ (t u:T) (a:Nat),er t=er u->gV nY (jJ a t) (jJ a u)=true
 | .mk n l,.mk m k,a,h=>by
  rw [er,er] at h
  injection h with I G
  injection I with h3 h4 h5 h6 h7
  rw [jJ,jJ,gV,FQ l k (a+1) G,Bool.and_true,<-zY l,<-zY k,G];simp only [nY,h3,h5,h6];simp [uz]
theorem FQ:∀ (l k:List T) (a:Nat),bf l=bf k->gV nY (eD a l) (eD a k)=true
 | [],[],a,_=>by rw [eD];rfl
 | t::r,u::s,a,h=>by
  rw [bf,bf] at h
  injection h with I G
  have hz:aQ t=aQ u:=by rw [<-zo t,I,zo u]
  rw [eD,eD,ML (by rw [MS,MS,hz]),Yr t u a I,<-hz,FQ r s _ G];rfl
 | [],u::s,a,h=>by rw [bf,bf] at h;cases h
 | t::r,[],a,h=>by rw [bf,bf] at h;cases h
end
mutual
theorem Zh:∀ (t u:T) (a:Nat) (x y:List Nd),gV nY (jJ a t++x) (jJ a u++y)=true->er t=er u/\gV nY x y=true
 | .mk n l,.mk m k,a,x,y,h=>by
  rw [jJ,jJ,cons_append,cons_append,gV,aK] at h;obtain ⟨I,G⟩:=h;simp only [nY,aK,beq_iff_eq] at I;obtain ⟨⟨⟨h3,h4⟩,h5⟩,h6⟩:=I;have h7:=congrArg List.length (Cd h6);rw [dy,dy] at h7;obtain ⟨h8,h9⟩:=Gk l k (a+1) x y h7 G;exact ⟨by rw [er,er,h3,h4,h5,h8],h9⟩
theorem Gk:∀ (l k:List T) (a:Nat) (x y:List Nd),l.length=k.length->gV nY (eD a l++x) (eD a k++y)=true->bf l=bf k/\gV nY x y=true
 | [],[],a,x,y,_,h=>by rw [eD,nil_append,nil_append] at h;exact ⟨rfl,h⟩
 | t::r,u::s,a,x,y,hl,h=>by
  rw [eD,eD,eF,eF] at h;obtain ⟨I,G⟩:=Zh t u a _ _ h
  have hz:aQ t=aQ u:=by rw [<-zo t,I,zo u]
  rw [<-hz] at G;obtain ⟨h3,h4⟩:=Gk r s _ x y zge G;exact ⟨by rw [bf,bf,I,h3],h4⟩
 | [],u::s,a,x,y,hl,h=>by simp at hl
 | t::r,[],a,x,y,hl,h=>by simp at hl
end
theorem Zg {l k:List T} (hl:l.length=k.length) (h:gV nY (eD 0 l) (eD 0 k)=true):bf l=bf k:=by
 have:=Gk l k 0 [] [] hl (by rw [dN,dN];exact h);exact this.1
structure PS where
 trees:List T
 globals:List ae
 arrays:List Ar
 fns:List (ae × List ae)
def PS.empty:PS:=⟨[],[],[],[]⟩
def r7:Nat->List ae->RS->Option (List ae × RS)
 | 0,_,_=>none
 | f+1,acc,p =>
  if p.code=0/\is p 0 [41]=false then r7 f (acc++[(tok (if acc.length=0 then p else want p [44]) 0).s]) (bO (if acc.length=0 then p else want p [44]))
  else some (acc,want p [41])
def iW (f:Nat) (p:RS) (st:PS):Option (RS × PS) :=
 if is p 0 jU=true then
  if (bO p.next).code=0/\is (bO p.next) 0 [91]=true then
   if (tok (bO p.next).next 0).kind=1 then
    some (want (want (bO p.next).next.next [93]) [59],{ st with arrays:=st.arrays++[⟨(tok p.next 0).s,(tok (bO p.next).next 0).n⟩] })
   else some (nr (bO p.next).next,st)
  else some (want (bO p.next) [59],{ st with globals:=st.globals++[(tok p.next 0).s] })
 else if is p 0 ko=true then
  match r7 f [] (want (bO p.next) [40]) with
  | none=>none
  | some (l,q) =>
   if q.code=0 then match iS f (.block 1) q with
    | none=>none
    | some (t,q)=>some (q,{ st with trees:=st.trees++[t],fns:=st.fns++[((tok p.next 0).s,l)] })
   else some (q,st)
 else some (nr p,st)
def qG:Nat->Nat->RS->PS->Option (RS × PS)
 | 0,_,_,_=>none
 | g+1,f,p,st =>
  if p.code=0/\p.i < p.l.length then match iW f p st with
   | none=>none
   | some (p,st)=>qG g f p st
  else some (p,st)
theorem Sl:∀ (f:Nat) (acc:List ae) (p:RS) (l:List ae) (q:RS),p.ok->r7 f acc p=some (l,q)->p.to q
 | 0,_,_,_,_,_,h=>by cases h
 | f+1,acc,p,l,q,hp,h=>by
  rw [r7] at h;split at h
  ·have I:p.to (if acc.length=0 then p else want p [44]):=by split;exact ll hp;exact dq hp _
   have G:=kv (I.ok hp);have h3:=Sl f _ _ l q ((I.trans G).ok hp) h;exact (I.trans G).trans h3
  ·cases h;exact dq hp _
theorem ab7 {f:Nat} {p q:RS} {st fo:PS} (hp:p.ok) (h:iW f p st=some (q,fo)):p.to q:=by
 unfold iW at h;split at h
 ·rename_i hi;have I:=mF hi;have G:=I.trans (kv (I.ok hp));split at h
  ·rename_i hb;have h3:=G.trans (mF hb.2);split at h
   ·rename_i hk
    have fm:(tok (bO p.next).next 0).kind≠0:=by rw [hk];decide
    have h4:=h3.trans (cX (by have:=vA fm;exact this));have h5:=h4.trans (dq (h4.ok hp) [93])
    cases h;exact h5.trans (dq (h5.ok hp) _)
   ·cases h;exact h3.trans (Ax (h3.ok hp))
  ·cases h;exact G.trans (dq (G.ok hp) _)
 ·split at h
  ·rename_i hi;have I:=mF hi;have G:=I.trans (kv (I.ok hp));have h3:=G.trans (dq (G.ok hp) [40])
   cases hm:r7 f [] (want (bO p.next) [40]) with
   | none=>rw [hm] at h;cases h
   | some r =>
    obtain ⟨l,q1⟩:=r;rw [hm] at h;simp only at h;have h4:=h3.trans (Sl _ _ _ _ _ (h3.ok hp) hm);split at h
    ·cases hb:iS f (.block 1) q1 with
     | none=>exact zba
     | some r =>
      obtain ⟨t,q2⟩:=r;rw [hb] at h;cases h;exact h4.trans ((Iq f).1 _ _ _ _ (h4.ok hp) hb)
    ·cases h;exact h4
  ·cases h;exact Ax hp
structure PS.le (a:PS) (n:Nat):Prop where
 trees:a.trees.length<=n
 globals:a.globals.length<=n
 arrays:a.arrays.length<=n
 fns:a.fns.length=a.trees.length
theorem ab5 {f n:Nat} {p q:RS} {st fo:PS} (h:iW f p st=some (q,fo)) (hs:st.le n):fo.le (n+1):=by
 obtain ⟨a,b,c,d⟩:=hs;have key:st.le (n+1):=⟨by omega,by omega,by omega,d⟩;unfold iW at h;split at h
 ·split at h
  ·split at h
   ·cases h;exact zct
   ·cases h;exact key
  ·cases h;exact zct
 ·split at h
  ·split at h
   ·cases h
   ·split at h
    ·split at h
     ·cases h
     ·cases h;exact zct
    ·cases h;exact key
  ·cases h;exact key
end Go.Im
namespace Go.Sp
open Go.Xp
inductive Tz (s:ae):Nat->List Tok->Nat->Prop
 | nil (a:Nat):Tz s a [] a
 | blank {a b:Nat} {c:UInt8} {ts:List Tok} (hc:s[a]?=some c) (hb:fY c=true) (h:Tz s (a+1) ts b):Tz s a ts b
 | tok {a a' b:Nat} {c:UInt8} {t:Tok} {ts:List Tok} (hc:s[a]?=some c) (hb:fY c=false) (hr:cv s a [47,42]=false) (ht:ia s a c=(t,a')) (hk:t.kind=1\/t.kind=2\/t.kind=3) (hn:t.n<=2147483647) (ha:a < a') (h:Tz s a' ts b):Tz s a (t::ts) b
theorem Tz.app {s:ae} {a b c:Nat} {ts us:List Tok} (h:Tz s a ts b) (k:Tz s b us c):Tz s a (ts++us) c:=by
 induction h with
 | nil a=>exact k
 | blank hc hb h ih=>exact .blank hc hb (ih k)
 | tok hc hb hr ht hk hn ha h ih=>exact .tok hc hb hr ht hk hn ha (ih k)
theorem Tz.kinds {s:ae} {a b:Nat} {ts:List Tok} (h:Tz s a ts b):∀ t∈ts,t.kind=1\/t.kind=2\/t.kind=3:=by
 induction h with
 | nil a=>intro t h;cases h
 | blank hc hb h ih=>exact ih
 | tok hc hb hr ht hk hn ha h ih =>
  intro t h
  rcases fh h with rfl | h
  ·exact hk
  ·exact ih t h
theorem Tz.len {s:ae} {a b:Nat} {ts:List Tok} (h:Tz s a ts b):a+ts.length<=b:=by
 induction h with
 | nil a=>simp
 | blank hc hb h ih=>omega
 | tok hc hb hr ht hk hn ha h ih=>simp only [length_cons];omega
theorem Ts (s:ae):∀ (f f' a:Nat),a<=s.length->s.length < f+a->s.length < f'+a->skip s f a=skip s f' a:=by
 intro f
 induction f with
 | zero=>intro f' a I G;omega
 | succ f ih =>
  intro f' a I G h3;obtain ⟨f',rfl⟩:∃ g,f'=g+1:=⟨f' - 1,by omega⟩;rw [skip,skip]
  cases hc:s[a]? with
  | none=>rfl
  | some c =>
   simp only;have au:=(bB hc).1;split
   ·exact ih f' (a+1) av av av
   ·split
    ·rename_i hb;have hb:=mA hb;have hb:a+2<=s.length:=hb;have h4:=vT s s.length (a+2) hb;have h5:=uZ s s.length (a+2) hb av;split
     ·rfl
     ·rename_i hn
      have h6:cv s (gH s s.length (a+2)) [42,47]=true:=by
       cases rF:cv s (gH s s.length (a+2)) [42,47] with
       | true=>rfl
       | false=>exact absurd ⟨by omega,rF⟩ h5
      have h6:=mA h6;have h6:gH s s.length (a+2)+2<=s.length:=h6;exact ih f' _ av av av
    ·rfl
theorem Tz.iU {s:ae} {a b:Nat} {ts:List Tok} (h:Tz s a ts b):∀ (f:Nat) (acc:List Tok),tY s (f+ts.length) (skip s (s.length+1) a).1 acc=tY s f (skip s (s.length+1) b).1 (acc++ts):=by
 induction h with
 | nil a=>intro f acc;simp
 | blank hc hb h ih =>
  rename_i a b c ts;intro f acc;have au:=(bB hc).1;rw [<-ih f acc]
  have:skip s (s.length+1) a=skip s (s.length+1) (a+1):=by
   rw [skip,hc];simp only;rw [ah hb];exact Ts s _ _ _ av av av
  rw [this]
 | tok hc hb hr ht hk hn ha h ih =>
  rename_i a a' b c t ts;intro f acc
  have:skip s (s.length+1) a=(a,-1):=by
   rw [skip,hc];simp only;rw [ab zgO,ab (by rw [hr];decide)]
  rw [this,length_cons,<-iJ,tY,hc];simp only [ht];rw [ih f (acc++[t]),eF];rfl
theorem Tz.all {s:ae} {ts:List Tok} (h:Tz s 0 ts s.length):Go.Sp.iU s=some ts:=by
 have I:=h.len;have G:=h.iU (s.length+2 - ts.length) [];unfold Go.Sp.iU;rw [show s.length+2 - ts.length+ts.length=s.length+2 by omega] at G;rw [G]
 have h3:skip s (s.length+1) s.length=(s.length,-1):=by rw [skip];simp
 rw [h3];obtain ⟨g,hg⟩:∃ g,s.length+2 - ts.length=g+1:=⟨s.length+1 - ts.length,by omega⟩;rw [hg,tY];simp
theorem qo {s r:ae} {a:Nat} {c:UInt8} (h:s.drop a=c::r):s[a]?=some c/\s.drop (a+1)=r/\a < s.length:=by
 have I:s[a]?=some c:=by
  have:=List.getElem?_drop (xs:=s) (i:=a) (j:=0);rw [h] at this;simpa using this.symm
 refine ⟨I,?_,(bB I).1⟩;rw [<-List.tail_drop,h];rfl
theorem Zd (s:ae) (p:UInt8->Bool):∀ (w post:ae) (f a:Nat),s.drop a=w++post->(∀ c∈w,p c=true)->run s p (f+w.length) a=run s p f (a+w.length):=by
 intro w
 induction w with
 | nil=>intro post f a h hp;rfl
 | cons c w ih =>
  intro post f a h hp;obtain ⟨I,G,_⟩:=qo h;rw [length_cons,<-iJ,run,I];simp only;rw [ah (hp c (mem_cons_self)),ih post f (a+1) G (fun c hc=>hp c (dK _ hc))]
  congr 1;omega
theorem VU (s:ae) (p:UInt8->Bool) (post:ae) (f a:Nat) (h:s.drop a=post) (hp:∀ c,post.head?=some c->p c=false):run s p f a=a:=by
 cases f with
 | zero=>rfl
 | succ f =>
  rw [run]
  cases post with
  | nil =>
   have:s[a]?=none:=by
    rw [List.getElem?_eq_none_iff];have:=congrArg List.length h;simp at this;omega
   rw [this]
  | cons c r =>
   exact zei
theorem take_drop {s w post:ae} {a:Nat} (h:s.drop a=w++post):(s.take (a+w.length)).drop a=w:=by
 rw [List.drop_take,h,Nat.add_sub_cancel_left,List.take_left]
theorem Ke {s w post:ae} {a:Nat} (h:s.drop a=w++post) (ha:a<=s.length):a+w.length+post.length=s.length:=by
 have:=congrArg List.length h;simp only [lE,aL] at this;omega
theorem Wo {s w post:ae} {a:Nat} {c:UInt8} {r:ae} (ha:a<=s.length) (h:s.drop a=w++post) (hw:w=c::r) (hs:small c=true) (bj:∀ c∈w,ff c=true) (hp:∀ c,post.head?=some c->ff c=false) :
  ia s a c=(⟨if words.contains w=true then 3 else 2,0,w,a⟩,a+w.length):=by
 have hl:=Ke h ha
 have he:gI s a=a+w.length:=by
  unfold gI;obtain ⟨g,hg⟩:∃ g,s.length+1=g+w.length:=⟨s.length+1 - w.length,by omega⟩;rw [hg,Zd s ff w post g a h bj];refine VU s ff post g _ ?_ hp;rw [<-List.drop_drop,h,drop_left]
 have hd:eV c=false:=by
  simp only [small,eV,aK] at hs |-;have I:=n8 hs.1
  have:¬ ((c.toNat:Int)<=57):=by omega
  simp [this]
 unfold ia;rw [ab (by rw [hd];decide),ah hs];unfold jq;rw [he,take_drop h]
def fold (n:Int) (w:ae):Int:=w.foldl (fun n c=>if n<=2147483647 then n * 10+((c.toNat:Int) - 48) else n) n
theorem PM (s:ae):∀ (w post:ae) (f:Nat) (n:Int) (a:Nat),s.drop a=w++post->(∀ c∈w,eV c=true)->number s (f+w.length) n a=number s f (fold n w) (a+w.length):=by
 intro w
 induction w with
 | nil=>intro post f n a h hp;rfl
 | cons c w ih =>
  intro post f n a h hp;obtain ⟨I,G,_⟩:=qo h;rw [length_cons,<-iJ,number,I];simp only;rw [ah (hp c (mem_cons_self)),ih post f _ (a+1) G (fun c hc=>hp c (dK _ hc))];rw [show a+1+w.length=a+(w.length+1) by omega];rfl
theorem Mb (s:ae) (post:ae) (f:Nat) (n:Int) (a:Nat) (h:s.drop a=post) (hp:∀ c,post.head?=some c->eV c=false):number s f n a=(n,a):=by
 cases f with
 | zero=>rfl
 | succ f =>
  rw [number]
  cases post with
  | nil =>
   have:s[a]?=none:=by
    rw [List.getElem?_eq_none_iff];have:=congrArg List.length h;simp at this;omega
   rw [this]
  | cons c r =>
   exact zei
theorem Q1 (k:Nat) (h:k<=9):eV (UInt8.ofNat (48+k))=true/\((UInt8.ofNat (48+k)).toNat:Int)=48+k:=by
 have:(UInt8.ofNat (48+k)).toNat=48+k:=by simp;omega
 refine ⟨?_,by rw [this];omega⟩;simp only [eV,aK,this];exact ⟨decide_eq_true av,decide_eq_true av⟩
theorem MH (n:Nat):(∀ c∈iD n,eV c=true)/\(n<=2147483647->fold 0 (iD n)=n)/\iD n≠[]:=by
 induction n using Nat.strongRecOn with
 | _ n ih =>
 unfold iD
 by_cases h:n < 10
 ·rw [dif_pos h];obtain ⟨I,G⟩:=Q1 n av;refine ⟨fun c hc=>by rw [mem_singleton] at hc;subst hc;exact I,fun _=>?_,by simp⟩;simp only [fold,foldl_cons,List.foldl_nil];rw [ah av,G];omega
 ·rw [dif_neg h];obtain ⟨I,G,h3⟩:=ih (n / 10) av;obtain ⟨h4,h5⟩:=Q1 (n % 10) av;refine ⟨fun c hc=>?_,fun hn=>?_,by simp⟩
  ·rcases mo hc with hc | hc
   ·exact I c hc
   ·rw [mem_singleton] at hc;subst hc;exact h4
  ·have:=G av;unfold fold at this |-;rw [List.foldl_append,this];simp only [foldl_cons,List.foldl_nil];rw [ah av,h5];omega
theorem YY {s post:ae} {n a:Nat} {c:UInt8} {r:ae} (ha:a<=s.length) (h:s.drop a=iD n++post) (hw:iD n=c::r) (hn:n<=2147483647) (hp:∀ c,post.head?=some c->eV c=false) :
  ia s a c=(⟨1,n,[],a⟩,a+(iD n).length):=by
 obtain ⟨I,G,h3⟩:=MH n;have hl:=Ke h ha;have hd:eV c=true:=I c (by rw [hw];exact mem_cons_self);obtain ⟨g,hg⟩:∃ g,s.length+1=g+(iD n).length:=⟨s.length+1 - (iD n).length,by omega⟩;unfold ia;rw [ah hd,hg,PM s (iD n) post g 0 a h I,G hn,Mb s post g _ _ (by rw [<-List.drop_drop,h,drop_left]) hp]
theorem x8 {s r t:ae} {a:Nat} (h:s.drop a=r) (ha:a<=s.length):cv s a t=t.isPrefixOf r:=by
 have hl:a+r.length=s.length:=by have:=congrArg List.length h;simp at this;omega
 unfold cv;rw [List.drop_take,h,Nat.add_sub_cancel_left]
 by_cases hp:t <+: r
 ·obtain ⟨z,rfl⟩:=hp;simp only [aL] at hl
  have G:t.isPrefixOf (t++z)=true:=by rw [List.isPrefixOf_iff_prefix];exact ⟨z,rfl⟩
  rw [G,List.take_left];simp only [aK,beq_self_eq_true,and_true,decide_eq_true_eq];omega
 ·have I:t.isPrefixOf r=false:=by
   cases hh:t.isPrefixOf r with
   | false=>rfl
   | true=>exact absurd (List.isPrefixOf_iff_prefix.1 hh) hp
  rw [I]
  have G:(r.take t.length==t)=false:=by
   rw [beq_eq_false_iff_ne];intro h3;exact hp ⟨r.drop t.length,by have:=take_append_drop t.length r;rw [h3] at this;exact this⟩
  rw [G,Bool.and_false]
def Gi:List UInt8:=[32,40,41,91,93,44,59,123,125,10]
def Sep (post:ae):Prop:=∀ c,post.head?=some c->c∈Gi
theorem Sep.ff {post:ae} (h:Sep post):∀ c,post.head?=some c->ff c=false:=by
 intro c hc
 have:∀ c∈Gi,Go.Sp.ff c=false:=by decide
 exact this c (h c hc)
theorem Sep.eV {post:ae} (h:Sep post):∀ c,post.head?=some c->eV c=false:=by
 intro c hc
 have:∀ c∈Gi,Go.Sp.eV c=false:=by decide
 exact this c (h c hc)
theorem Y6 {x y z:ae} (h:x.length<=y.length):x.isPrefixOf (y++z)=x.isPrefixOf y:=by
 induction x generalizing y with
 | nil=>simp
 | cons a x ih =>
  cases y with
  | nil=>simp at h
  | cons b y=>simp only [cons_append,List.isPrefixOf];rw [ih zgc]
theorem find_congr {α:Type} {p q:α->Bool}:∀ {l:List α},(∀ x∈l,p x=q x)->l.find? p=l.find? q
 | [],_=>rfl
 | a::l,h=>by rw [List.find?_cons,List.find?_cons,h a (mem_cons_self),find_congr (fun x hx=>h x (dK _ hx))]
theorem V0 {s w post:ae} {a:Nat} {c:UInt8} {r:ae} (ha:a<=s.length) (h:s.drop a=w++post) (hw:w=c::r) (hm:w∈cr) (hp:Sep post) :
  ia s a c=(⟨3,0,w,a⟩,a+w.length)/\fY c=false/\cv s a [47,42]=false:=by
 have hd:∀ w∈cr,∀ c,w.head?=some c->eV c=false/\small c=false/\fY c=false:=by
  have:∀ w∈cr,(match w.head? with | some c=>!eV c&&!small c&&!fY c | none=>true)=true:=by decide
  intro w hw c hc;have:=this w hw;rw [hc] at this;simp only [aK,Bool.not_eq_true'] at this;exact ⟨this.1.1,this.1.2,this.2⟩
 obtain ⟨I,G,h3⟩:=hd w hm c (by rw [hw];rfl)
 have Io:∀ w∈cr,w.length<=2/\1<=w.length:=by decide
 have key:∀ w∈cr,cr.find? (fun x=>x.isPrefixOf w)=some w/\[47,42].isPrefixOf w=false:=by decide
 have adL:∀ w∈cr,∀ c∈Gi,cr.find? (fun x=>x.isPrefixOf (w++[c]))=some w/\[47,42].isPrefixOf (w++[c])=false:=by decide
 have hf:cr.find? (cv s a)=some w/\cv s a [47,42]=false:=by
  have e1:∀ x,cv s a x=x.isPrefixOf (w++post):=fun x=>x8 h ha
  have e2:cr.find? (cv s a)=cr.find? (fun x=>x.isPrefixOf (w++post)):=find_congr fun x _=>e1 x
  rw [e2,e1]
  cases post with
  | nil=>rw [dN];exact key w hm
  | cons c' post =>
   have dP:=hp c' rfl
   have e3:∀ x:ae,x.length<=2->x.isPrefixOf (w++c'::post)=x.isPrefixOf (w++[c']):=fun x hx=>by
    rw [show w++c'::post=(w++[c'])++post by simp];exact Y6 (by rw [aL];have:=(Io w hm).2;simp;omega)
   rw [find_congr fun x hx=>e3 x (Io x hx).1,e3 _ ar];exact adL w hm c' dP
 refine ⟨?_,h3,hf.2⟩;unfold ia;rw [ab (by rw [I];decide),ab (by rw [G];decide),hf.1]
theorem US {s post:ae} {a:Nat} {c:UInt8} (ha:a<=s.length) (h:s.drop a=c::post) (hm:c∈[40,41,91,93,44,59,123,125]) :
  ia s a c=(⟨3,0,[c],a⟩,a+1)/\fY c=false/\cv s a [47,42]=false:=by
 have hd:∀ c∈([40,41,91,93,44,59,123,125]:List UInt8),eV c=false/\small c=false/\fY c=false/\c≠47:=by decide
 obtain ⟨I,G,h3,h4⟩:=hd c hm
 have e1:∀ x,cv s a x=x.isPrefixOf (c::post):=fun x=>x8 h ha
 have e2:cr.find? (cv s a)=cr.find? (fun x=>x.isPrefixOf (c::post)):=find_congr fun x _=>e1 x
 have key:∀ post:ae,∀ c∈([40,41,91,93,44,59,123,125]:List UInt8),cr.find? (fun x=>x.isPrefixOf (c::post))=some [c]:=by
  intro post c hc;simp only [List.mem_cons,List.not_mem_nil,or_false] at hc
  rcases hc with rfl | rfl | rfl | rfl | rfl | rfl | rfl | rfl <;> rfl
 refine ⟨?_,h3,?_⟩
 ·unfold ia;rw [ab (by rw [I];decide),ab (by rw [G];decide),e2,key post c hm];rfl
 ·rw [e1];simp only [List.isPrefixOf]
  have:((47:UInt8)==c)=false:=by rw [beq_eq_false_iff_ne];exact fun h=>h4 h.symm
  rw [this,Bool.false_and]
end Go.Sp
namespace Go.Im
open Go.Xp Go.Sp
def ri:List ae:=[[105,110,116],[118,97,114],[102,117,110,99],[105,102],[101,108,115,101],[119,104,105,108,101],[114,101,116,117,114,110],[124,124],[38,38],[61,61],[33,61],[60,61],[62,61],[60,60],[62,62],[40],[41],[123],[125],[91],[93],[44],[59],[61],[60],[62],[43],[45],[42],[47],[37],[38],[124],[94],[33],[126]]
theorem BR:ri=words++cr:=by decide
def oh (s:ae):Bool:=ri.contains s
def oZ:ae->Int->Int
 | [],n=>n
 | c::r,n=>if n<=2147483647 then oZ r (10 * n+((c.toNat:Int) - 48)) else n
def dY (s:ae) (a b:Nat):ae:=(s.take b).drop a
def lX (s:ae) (a:Nat) (k:Nat):Bool:=decide (a+k<=s.length)&&(match s[a]? with | some c=>!(small c) | none=>false)&&oh (dY s a (a+k))
def kr (s:ae) (a:Nat):ae:=if lX s a 2=true then dY s a (a+2) else if lX s a 1=true then dY s a (a+1) else []
def pX (s:ae) (a:Nat):Nat:=run s eV (s.length+1) a
def xn:Tok:=⟨0,0,[],0⟩
def ph (s:ae) (a:Nat) (c:UInt8):Tok × Nat × Int :=
 if eV c=true then
  if oZ (dY s a (pX s a)) 0 > 2147483647 then (xn,a,3) else (⟨1,oZ (dY s a (pX s a)) 0,[],a⟩,pX s a,0)
 else if small c=true then (⟨if oh (jq s a)=true then 3 else 2,0,jq s a,a⟩,gI s a,0)
 else if kr s a=[] then (xn,a,2)
 else (⟨3,0,kr s a,a⟩,a+(kr s a).length,0)
def w6:ae->Option Nat
 | []=>none
 | b::l=>if List.isPrefixOf [42,47] (b::l) then some 0 else match w6 l with | none=>none | some n=>some (n+1)
def sC (s:ae):Nat->Nat->List Tok->Option (List Tok × Int × Int)
 | 0,_,_=>none
 | f+1,a,acc=>match s[a]? with
  | none=>some (acc,0,0)
  | some c =>
   if fY c=true then sC s f (a+1) acc
   else if cv s a [47,42]=true then
    match w6 (s.drop (a+2)) with
    | none=>some ([],4,a)
    | some n=>sC s f (a+(n+4)) acc
   else if (ph s a c).2.2≠0 then some ([],(ph s a c).2.2,a)
   else sC s f (ph s a c).2.1 (acc++[(ph s a c).1])
structure D5 (t:Tok):Prop where
 num:t.kind=1->0<=t.n/\t.n<=2147483647/\t.s=[]
 name:t.kind=2->word t.s=true/\oh t.s=false
 sign:t.kind=3->oh t.s=true
 kinds:t.kind=1\/t.kind=2\/t.kind=3
theorem oe {s:ae} {a b:Nat} (h:b<=s.length):(dY s a b).length=b - a:=by
 unfold dY;rw [lE,gE];omega
theorem sL {s:ae} {a b:Nat} {c:UInt8} (h:s[a]?=some c) (hb:a < b) (hl:b<=s.length):dY s a b=c::dY s (a+1) b:=by
 unfold dY;have au:=(bB h).1
 have:(s.take b)[a]?=some c:=by rw [getElem?_take,ah hb];exact h
 have G:=(bB this);rw [n5 G.1,G.2]
theorem Gg (s:ae) (p:UInt8->Bool):∀ (f a:Nat),a<=s.length->∀ c∈dY s a (run s p f a),p c=true:=by
 intro f
 induction f with
 | zero =>
  intro a ha c hc;rw [Go.Sp.run] at hc
  have:(dY s a a).length=0:=by rw [oe ha];omega
  rw [ig this] at hc;cases hc
 | succ f ih =>
  intro a ha c hc;rw [Go.Sp.run] at hc
  have JQ:∀ x:ae,x=dY s a a->c∈x->p c=true:=fun x hx hm=>by
   have:(dY s a a).length=0:=by rw [oe ha];omega
   rw [hx,ig this] at hm;cases hm
  cases hq:s[a]? with
  | none=>rw [hq] at hc;exact JQ _ rfl hc
  | some d =>
   rw [hq] at hc;simp only at hc;have au:=(bB hq).1
   by_cases hp:p d=true
   ·rw [ah hp] at hc
    have kP:a+1<=Go.Sp.run s p f (a+1)/\Go.Sp.run s p f (a+1)<=s.length:=by
     have:∀ (f a:Nat),a<=s.length->a<=Go.Sp.run s p f a/\Go.Sp.run s p f a<=s.length:=by
      intro f
      induction f with
      | zero=>intro a h;exact zfl
      | succ f ih =>
       intro a h;rw [Go.Sp.run]
       cases hq:s[a]? with
       | none=>exact zfl
       | some d =>
        simp only;split
        ·have:=ih (a+1) (bB hq).1;omega
        ·exact zfl
     exact this f (a+1) au
    rw [sL hq av kP.2] at hc
    rcases fh hc with rfl | hc
    ·exact hp
    ·exact ih (a+1) au c hc
   ·rw [ab hp] at hc;exact JQ _ rfl hc
theorem NM:∀ (w:ae) (n:Int),0<=n->(∀ c∈w,eV c=true)->0<=oZ w n
 | [],n,h,_=>h
 | c::r,n,h,hd=>by
  rw [oZ];have hc:=hd c (mem_cons_self);simp only [eV,aK,decide_eq_true_eq] at hc;split
  ·exact NM r _ av (fun c hc=>hd c (dK _ hc))
  ·exact h
theorem Vj {x:ae} (h:oh x=true):x≠[]:=by
 intro h0;subst h0;revert h;decide
theorem Of {s:ae} {a:Nat} {c:UInt8} (hc:s[a]?=some c) (h0:(ph s a c).2.2=0):D5 (ph s a c).1/\(ph s a c).1.at_=a/\a < (ph s a c).2.1/\(ph s a c).2.1<=s.length:=by
 have au:=(bB hc).1;unfold ph at h0 |-
 by_cases hd:eV c=true
 ·rw [ah hd] at h0 |-
  by_cases hn:oZ (dY s a (pX s a)) 0 > 2147483647
  ·rw [ah hn] at h0;cases h0
  ·rw [ab hn];obtain ⟨e1,e2,e3⟩:=rB s eV (s.length+1) a av av
   have wQ:a < pX s a:=by
    rcases Nat.lt_or_ge a (pX s a) with h | h
    ·exact h
    ·have he:Go.Sp.run s eV (s.length+1) a=a:=by unfold pX at h;omega
     have:=e1 c (by rw [he];exact hc);rw [hd] at this;cases this
   refine ⟨⟨fun _=>⟨NM _ _ ar (Gg s eV _ a av),by simpa using hn,rfl⟩,fun h=>by simp at h,fun h=>by simp at h,.inl rfl⟩,rfl,wQ,e3⟩
 ·rw [ab hd] at h0 |-
  by_cases hs:small c=true
  ·rw [ah hs];obtain ⟨e1,e2,e3⟩:=rB s ff (s.length+1) a av av
   have uh:ff c=true:=by simp [ff,hs]
   have wQ:a < gI s a:=by
    rcases Nat.lt_or_ge a (gI s a) with h | h
    ·exact h
    ·have he:Go.Sp.run s ff (s.length+1) a=a:=by unfold gI at h;omega
     exact zfC
   have hw:word (jq s a)=true:=by
    have I:jq s a=c::dY s (a+1) (gI s a):=sL hc wQ e3;have G:=Gg s ff (s.length+1) a av;unfold word;have h3:(jq s a).all ff=true:=jb.2 G;rw [h3,I];simp [hs]
   refine ⟨⟨fun h=>?_,fun h=>⟨hw,?_⟩,fun h=>?_,?_⟩,rfl,wQ,e3⟩
   ·simp only at h;exact zfs
   ·simp only at h;split at h
    ·cases h
    ·rename_i hh;simpa using hh
   ·simp only at h;split at h
    ·assumption
    ·cases h
   ·simp only;split
    ·exact .inr (.inr rfl)
    ·exact .inr (.inl rfl)
  ·rw [ab hs] at h0 |-
   by_cases hg:kr s a=[]
   ·rw [ah hg] at h0;cases h0
   ·rw [ab hg]
    have key:oh (kr s a)=true/\a+(kr s a).length<=s.length:=by
     unfold kr at hg |-
     have aux:∀ k,lX s a k=true->oh (dY s a (a+k))=true/\a+(dY s a (a+k)).length<=s.length:=fun k h=>by
      simp only [lX,aK,decide_eq_true_eq] at h;refine ⟨h.2,?_⟩;rw [oe h.1.1];have:=h.1.1;omega
     split
     ·exact aux 2 (by assumption)
     ·rename_i G;rw [ab G] at hg;split
      ·exact aux 1 (by assumption)
      ·rename_i I;rw [ab I] at hg;exact absurd rfl hg
    have hl:=List.length_pos_iff.2 (Vj key.1);exact ⟨⟨fun h=>by simp at h,fun h=>by simp at h,fun _=>key.1,.inr (.inr rfl)⟩,rfl,by simp only;omega,key.2⟩
theorem FY:∀ {l:ae} {n:Nat},w6 l=some n->n+2<=l.length
 | [],n,h=>by cases h
 | b::l,n,h=>by
  rw [w6] at h;split at h
  ·rename_i hp;cases h
   cases l with
   | nil=>simp [List.isPrefixOf] at hp
   | cons d l=>simp
  ·cases hq:w6 l with
   | none=>rw [hq] at h;cases h
   | some m=>rw [hq] at h;cases h;have:=FY hq;simp only [length_cons];omega
theorem vt (s:ae):∀ (f a:Nat) (acc:List Tok),a<=s.length->s.length < f+a->(∀ t∈acc,D5 t)->(acc.Pairwise fun x y=>x.at_ < y.at_)->(∀ t∈acc,t.at_ < (a:Int))->acc.length<=a ->
  ∃ ts c z,sC s f a acc=some (ts,c,z)/\(∀ t∈ts,D5 t)/\(ts.Pairwise fun x y=>x.at_ < y.at_)/\ts.length<=s.length
 | 0,a,acc,I,G,_,_,_,_=>by omega
 | f+1,a,acc,I,G,h3,h4,h5,h6=>by
  rw [sC]
  cases hc:s[a]? with
  | none=>exact ⟨acc,0,0,rfl,h3,h4,by omega⟩
  | some c =>
   simp only;have au:=(bB hc).1;split
   ·exact vt s f (a+1) acc av av h3 h4 (fun t ht=>by have:=h5 t ht;omega) av
   ·split
    ·rename_i hb;have kO:=mA hb;simp only [length_cons,length_nil] at kO
     cases hi:w6 (s.drop (a+2)) with
     | none=>exact ⟨[],4,a,rfl,fun t h=>by simp at h,.nil,aS _⟩
     | some n =>
      have:=FY hi;rw [lE] at this;exact vt s f (a+(n+4)) acc av av h3 h4 (fun t ht=>by have:=h5 t ht;omega) av
    ·split
     ·exact ⟨[],_,a,rfl,fun t h=>by simp at h,.nil,aS _⟩
     ·rename_i h0;obtain ⟨k1,k2,k3,k4⟩:=Of hc zgN;refine vt s f _ _ k4 av (fun t ht=>?_) ?_ (fun t ht=>?_) (by rw [aL];simp only [length_cons,length_nil];omega)
      ·rcases mo ht with h | h
       ·exact h3 t h
       ·rw [mem_singleton] at h;subst h;exact k1
      ·rw [List.pairwise_append];refine ⟨h4,List.pairwise_singleton _ _,fun x hx y hy=>?_⟩;rw [mem_singleton] at hy;subst hy;rw [k2];exact h5 x hx
      ·rcases mo ht with h | h
       ·have:=h5 t h;omega
       ·rw [mem_singleton] at h;subst h;rw [k2];omega
theorem Dd (s:ae):∀ (f:Nat) (n:Int) (a:Nat),a<=s.length->s.length < f+a->oZ (dY s a (number s f n a).2) n=(number s f n a).1
 | 0,n,a,I,G=>by omega
 | f+1,n,a,I,G=>by
  have JQ:dY s a a=[]:=ig (by rw [oe I];omega);rw [number]
  cases hc:s[a]? with
  | none=>simp only;rw [JQ,oZ]
  | some c =>
   simp only;have au:=(bB hc).1
   by_cases hd:eV c=true
   ·rw [ah hd];obtain ⟨e1,e2,e3⟩:=vX s f (if n<=2147483647 then n * 10+((c.toNat:Int) - 48) else n) (a+1) av av;rw [sL hc av e3,oZ];have ih:=Dd s f (if n<=2147483647 then n * 10+((c.toNat:Int) - 48) else n) (a+1) av av
    by_cases hn:n<=2147483647
    ·rw [ah hn] at ih |-;rw [ah hn,Int.mul_comm 10 n];exact ih
    ·rw [ab hn] at ih |-;rw [ab hn];rw [<-ih]
     cases hw:dY s (a+1) (number s f n (a+1)).2 with
     | nil=>rw [oZ]
     | cons d r=>rw [oZ,ab hn]
   ·rw [ab hd];simp only;rw [JQ,oZ]
theorem EY (s:ae):∀ (f:Nat) (n:Int) (a:Nat),(number s f n a).2=Go.Sp.run s eV f a
 | 0,n,a=>rfl
 | f+1,n,a=>by
  rw [number,Go.Sp.run]
  cases hc:s[a]? with
  | none=>rfl
  | some c =>
   simp only;split
   ·exact EY s f _ (a+1)
   ·rfl
theorem rm {s x:ae} {a:Nat}:cv s a x=(decide (a+x.length<=s.length)&&(dY s a (a+x.length)==x)):=rfl
theorem P4 {s:ae} {a:Nat} {c:UInt8} (hc:s[a]?=some c) (hs:small c=false):kr s a=(match cr.find? (cv s a) with | some x=>x | none=>[]):=by
 have au:=(bB hc).1
 have G:∀ x∈cr,x.length=1\/x.length=2:=by decide
 have EE:cr=cr.take 8++cr.drop 8:=(take_append_drop 8 cr).symm
 have nz:∀ x∈cr.take 8,x.length=2:=by decide
 have kD:∀ x∈cr.drop 8,x.length=1:=by decide
 have hw:∀ x∈words,∃ d r,x=d::r/\small d=true:=by
  intro x hx
  have:∀ x∈words,(match x with | d::_=>small d | []=>false)=true:=by decide
  have:=this x hx
  cases x with
  | nil=>cases this
  | cons d r=>exact ⟨d,r,rfl,this⟩
 have JL:∀ k,1<=k->a+k<=s.length->dY s a (a+k)=c::dY s (a+1) (a+k):=fun k I G=>sL hc av G
 have eO:∀ k,1<=k->a+k<=s.length->(oh (dY s a (a+k))=true↔dY s a (a+k)∈cr):=fun k I G=>by
  unfold oh;rw [BR,ea,mem_append];refine ⟨fun h=>h.resolve_left fun hm=>?_,.inr⟩;obtain ⟨d,r,e1,e2⟩:=hw _ hm;rw [JL k I G] at e1
  cases e1;rw [hs] at e2;cases e2
 have Pj:∀ k,1<=k->(lX s a k=true↔a+k<=s.length/\dY s a (a+k)∈cr):=fun k I=>by
  unfold lX;rw [hc];simp only [hs,Bool.not_false,Bool.and_true,aK,decide_eq_true_eq];exact ⟨fun ⟨p,q⟩=>⟨p,(eO k I p).1 q⟩,fun ⟨p,q⟩=>⟨p,(eO k I p).2 q⟩⟩
 have zS:∀ k,1<=k->k<=2->a+k<=s.length->dY s a (a+k)∈cr->(dY s a (a+k)).length=k:=fun k _ _ h _=>by rw [oe h];omega
 unfold kr
 by_cases t2:lX s a 2=true
 ·rw [ah t2];obtain ⟨p,q⟩:=(Pj 2 ar).1 t2
  have hq:dY s a (a+2)∈cr.take 8:=by
   rw [EE] at q
   rcases mo q with h | h
   ·exact h
   ·have:=kD _ h;rw [oe p] at this;omega
  rw [EE,List.find?_append]
  have:(cr.take 8).find? (cv s a)=some (dY s a (a+2)):=by
   cases hf:(cr.take 8).find? (cv s a) with
   | none =>
    rw [find?_eq_none] at hf;have I:=hf _ hq;rw [rm,oe p,show a+(a+2 - a)=a+2 by omega] at I;simp [p] at I
   | some x =>
    have I:=List.find?_some hf;have h3:=nz x (List.mem_of_find?_eq_some hf);rw [rm,h3] at I;simp only [aK,beq_iff_eq] at I;rw [I.2]
  rw [this];rfl
 ·rw [ab t2]
  have adz:(cr.take 8).find? (cv s a)=none:=by
   rw [find?_eq_none];intro x hx hb;rw [rm,nz x hx] at hb;simp only [aK,beq_iff_eq,decide_eq_true_eq] at hb;exact t2 ((Pj 2 ar).2 ⟨hb.1,by rw [hb.2];exact List.mem_of_mem_take hx⟩)
  rw [EE,List.find?_append,adz]
  by_cases t1:lX s a 1=true
  ·rw [ah t1];obtain ⟨p,q⟩:=(Pj 1 ar).1 t1
   have hq:dY s a (a+1)∈cr.drop 8:=by
    rw [EE] at q
    rcases mo q with h | h
    ·have:=nz _ h;rw [oe p] at this;omega
    ·exact h
   have:(cr.drop 8).find? (cv s a)=some (dY s a (a+1)):=by
    cases hf:(cr.drop 8).find? (cv s a) with
    | none =>
     rw [find?_eq_none] at hf;have I:=hf _ hq;rw [rm,oe p,show a+(a+1 - a)=a+1 by omega] at I;simp [p] at I
    | some x =>
     have I:=List.find?_some hf;have h3:=kD x (List.mem_of_find?_eq_some hf);rw [rm,h3] at I;simp only [aK,beq_iff_eq] at I;rw [I.2]
   rw [this];rfl
  ·rw [ab t1]
   have:(cr.drop 8).find? (cv s a)=none:=by
    rw [find?_eq_none];intro x hx hb;rw [rm,kD x hx] at hb;simp only [aK,beq_iff_eq,decide_eq_true_eq] at hb;exact t1 ((Pj 1 ar).2 ⟨hb.1,by rw [hb.2];exact List.mem_of_mem_drop hx⟩)
   rw [this];rfl
theorem Zy {s:ae} {a a':Nat} {c:UInt8} {t:Tok} (hc:s[a]?=some c) (h:ia s a c=(t,a')) (hk:t.kind=1\/t.kind=2\/t.kind=3) (hn:t.n<=2147483647):ph s a c=(t,a',0):=by
 have au:=(bB hc).1;unfold ia at h;unfold ph
 by_cases hd:eV c=true
 ·rw [ah hd] at h |-;cases h;have e1:pX s a=(number s (s.length+1) 0 a).2:=(EY s _ 0 a).symm;rw [e1,Dd s _ 0 a av av,ab zgY]
 ·rw [ab hd] at h |-
  by_cases hs:small c=true
  ·rw [ah hs] at h |-;cases h
   have J0:∃ r,jq s a=c::r\/jq s a=[]:=by
    cases hw:jq s a with
    | nil=>exact ⟨[],.inr rfl⟩
    | cons d r =>
     obtain ⟨e1,e2,e3⟩:=rB s ff (s.length+1) a av av
     have uh:ff c=true:=by simp [ff,hs]
     have wQ:a < gI s a:=by
      rcases Nat.lt_or_ge a (gI s a) with h | h
      ·exact h
      ·have he:Go.Sp.run s ff (s.length+1) a=a:=by unfold gI at h;omega
       exact zfC
     have I:jq s a=c::dY s (a+1) (gI s a):=sL hc wQ e3;rw [hw] at I;cases I;exact ⟨_,.inl rfl⟩
   have eO:oh (jq s a)=words.contains (jq s a):=by
    unfold oh;rw [BR]
    have EC:∀ x∈cr,(match x with | d::_=>small d | []=>true)=false:=by decide
    obtain ⟨r,I⟩:=J0
    have:cr.contains (jq s a)=false:=by
     cases kC:cr.contains (jq s a) with
     | false=>rfl
     | true =>
      have:=EC _ (ea.1 kC)
      rcases I with I | I <;> rw [I] at this <;> simp only at this
      ·rw [hs] at this;cases this
      ·cases this
    rw [Bool.eq_iff_iff,ea,mem_append,<-ea (as:=cr),this];simp
   rw [eO]
  ·rw [ab hs] at h |-;rw [P4 hc (by simpa using hs)]
   cases hf:cr.find? (cv s a) with
   | none=>rw [hf] at h;cases h;simp at hk
   | some x =>
    rw [hf] at h;cases h;simp only;have hx:=List.mem_of_find?_eq_some hf
    have cj:x≠[]:=by
     intro h0;subst h0;revert hx;decide
    rw [ab cj]
theorem YR {s:ae} {a b:Nat} {ts:List Tok} (h:Tz s a ts b):b=s.length->∀ (f:Nat) (acc:List Tok),s.length < f+a->sC s f a acc=some (acc++ts,0,0):=by
 induction h with
 | nil a =>
  intro hb f acc hf
  cases f with
  | zero=>omega
  | succ f =>
   rw [sC];have:s[a]?=none:=List.getElem?_eq_none_iff.2 av;rw [this];simp
 | blank hc kO h ih =>
  intro hb f acc hf
  cases f with
  | zero=>have:=(bB hc).1;omega
  | succ f =>
   rw [sC,hc];simp only;rw [ah kO];exact ih hb f acc av
 | tok hc kO hr ht hk hn ha h ih =>
  intro hb f acc hf
  cases f with
  | zero=>have:=(bB hc).1;omega
  | succ f =>
   rw [sC,hc];simp only;rw [ab (by rw [kO];decide),ab (by rw [hr];decide),Zy hc ht hk hn];simp only [ne_eq,not_true_eq_false,if_false];rw [ih hb f _ av];simp
abbrev vd (ts:List Tok):Prop:=∀ t∈ts,D5 t
def EF (t:T):Prop:=∃ a:E,a.ok=true/\er t=a.tree
def Qj (l:List T):Prop:=∃ es:List E,E.dT es=true/\bf l=E.trees es
def Sf (ts r:List Tok) (n:Nat):Prop:=∃ pre,ts=pre++r/\n<=pre.length
theorem Sf.nil (ts:List Tok):Sf ts ts 0:=⟨[],rfl,aS _⟩
theorem Sf.one (t:Tok) (ts:List Tok):Sf (t::ts) ts 1:=⟨[t],rfl,aI _⟩
theorem Sf.trans {a b c:List Tok} {n m:Nat} (h:Sf a b n) (k:Sf b c m):Sf a c (n+m):=by
 obtain ⟨p,rfl,h⟩:=h;obtain ⟨q,rfl,k⟩:=k;exact ⟨p++q,by simp,by rw [aL];omega⟩
theorem Sf.le {a b:List Tok} {n m:Nat} (h:Sf a b n) (k:m<=n):Sf a b m:=by
 obtain ⟨p,rfl,h⟩:=h;exact ⟨p,rfl,by omega⟩
theorem Sf.ok {a b:List Tok} {n:Nat} (h:Sf a b n) (k:vd a):vd b:=by
 obtain ⟨p,rfl,h⟩:=h
 exact fun t ht=>k t (List.mem_append_right _ ht)
theorem Sf.aR {e:Int} {s:ae} {ts r:List Tok} (hs:s≠[]) (h:aR e s ts=.ok r):Sf ts r 1:=by
 obtain ⟨u,rfl,_⟩:=Ae hs h;exact .one u r
theorem Sf.sign {s:ae} {ts:List Tok} (hs:s≠[]) (h:sign ts 0=s):Sf ts ts.tail 1:=by
 obtain ⟨u,I,_⟩:=xl hs h;rw [I];exact .one u _
theorem VY {s:ae} (h:oh s=false):words.contains s=false:=by
 unfold oh at h;rw [BR] at h
 cases hc:words.contains s with
 | false=>rfl
 | true =>
  rw [ea] at hc
  have:(words++cr).contains s=true:=by rw [ea];exact List.mem_append_left _ hc
  rw [h] at this;cases this
theorem acn {t:Tok} (h:D5 t) (hk:t.kind=2) (hl:t.s.length<=12):bT t.s=true:=by
 obtain ⟨I,G⟩:=h.name hk;unfold bT;rw [I,VY G];simpa using hl
theorem Sf.name {e:Int} {s:ae} {ts r:List Tok} (h:name e ts=.ok (s,r)) (ho:vd ts):Sf ts r 1/\bT s=true:=by
 obtain ⟨u,rfl,I,rfl,h3⟩:=Kq h;exact ⟨.one u r,acn (ho u mem_cons_self) I h3⟩
theorem X4 {s:ae} {k:Nat} (h:s∈levels.getD k []):jc s=true:=by
 unfold jc;rw [sw];rw [List.getD_eq_getElem?_getD] at h
 cases hk:levels[k]? with
 | none=>rw [hk] at h;simp at h
 | some l =>
  rw [hk] at h;exact ⟨l,bo hk,by rw [ea];exact h⟩
theorem lY (k a:Int) (s:ae) (l:List T):aQ (one k a s l)=aB l+1:=by unfold one;rw [aQ]
theorem Qj.snoc {l:List T} {t:T} (h:Qj l) (k:EF t):Qj (l++[t]):=by
 obtain ⟨es,I,G⟩:=h;obtain ⟨a,h3,h4⟩:=k
 have key:∀ es:List E,E.dT es=true->E.dT (es++[a])=true/\E.trees (es++[a])=E.trees es++[a.tree]:=by
  intro es
  induction es with
  | nil=>intro _;simp [E.dT,E.trees,h3]
  | cons b es ih =>
   intro h;simp only [E.dT,aK] at h;obtain ⟨k1,k2⟩:=ih h.2;simp only [cons_append,E.dT,E.trees,k1,k2,h.1];simp
 exact zee
def yX:xv->Nat
 | .loop _ _ out=>aQ out
 | _=>0
def jok:xv->Prop
 | .loop _ _ out=>EF out
 | _=>True
theorem Y8 (e:Int):∀ f,(∀ j ts t r,vd ts->jok j->rd e f j ts=.ok (t,r)->EF t/\∃ n,Sf ts r n/\aQ t<=n+yX j) /\
  (∀ d acc ts l r,vd ts->Qj acc->rd.args e f d acc ts=.ok (l,r)->Qj l/\∃ n,Sf ts r n/\aB l+1<=n+aB acc):=by
 intro f
 induction f with
 | zero=>exact ⟨fun j ts t r _ _ h=>by simp [rd] at h,fun d acc ts l r _ _ h=>by simp [rd.args] at h⟩
 | succ f ih =>
  obtain ⟨ih,Bz⟩:=ih;refine ⟨fun j ts t r ho hj h=>?_,fun d acc ts l r ho hj h=>?_⟩
  ·cases j with
   | expr d =>
    rw [rd] at h;split at h
    ·cases h
    ·exact ih (.level 0 (d+1)) ts t r ho trivial h
   | level k d =>
    rw [rd] at h;split at h
    ·exact ih (.operand d) ts t r ho trivial h
    ·split at h
     ·cases h
     ·rename_i out lz hx;obtain ⟨I,n,G,h3⟩:=ih (.level (k+1) d) ts out lz ho trivial hx;obtain ⟨k1,m,k2,k3⟩:=ih (.loop k d out) lz t r (G.ok ho) I h;exact ⟨k1,n+m,G.trans k2,by simp only [yX] at *;omega⟩
   | loop k d out =>
    cases ts with
    | nil=>rw [rd] at h;cases h;exact ⟨hj,0,.nil _,by simp only [yX];omega⟩
    | cons t0 r0 =>
     rw [rd] at h;split at h
     ·rename_i hc;split at h
      ·cases h
      ·rename_i b r1 hx;obtain ⟨⟨b',h0,I⟩,n,G,h3⟩:=ih (.level (k+1) d) r0 b r1 (fun t ht=>ho t (dK _ ht)) trivial hx;obtain ⟨o',h4,h5⟩:=hj;have h6:=(Sf.one t0 r0).trans G;obtain ⟨k1,m,k2,k3⟩:=ih (.loop k d (one 6 t0.at_ t0.s [out,b])) r1 t r (h6.ok ho) ⟨.bin t0.s o' b',by simp only [E.ok,X4 hc.2,h4,h0];rfl,by rw [eW,bf,bf,bf,h5,I,E.tree]⟩ h;refine ⟨k1,_,h6.trans k2,?_⟩;exact zej
     ·cases h;exact ⟨hj,0,.nil _,by simp only [yX];omega⟩
   | operand d =>
    cases ts with
    | nil =>
     rw [rd] at h;exact zfs
    | cons t0 r0 =>
     rw [rd] at h;split at h
     ·cases h
     ·have ho0:vd r0:=fun t ht=>ho t (dK _ ht)
      have vq:=Sf.one t0 r0;split at h
      ·split at h
       ·rename_i hu;split at h
        ·cases h
        ·rename_i a r1 hx;cases h;obtain ⟨⟨a',h0,I⟩,n,G,h3⟩:=ih (.operand (d+1)) r0 a r ho0 trivial hx;refine ⟨⟨.un t0.s a',?_,by rw [eW,bf,bf,I,E.tree]⟩,_,vq.trans G,?_⟩
         ·simp only [E.ok,h0]
          rcases hu with hu | hu | hu <;> simp [hu]
         ·exact zej
       ·split at h
        ·split at h
         ·cases h
         ·rename_i a r1 hx;split at h
          ·cases h
          ·rename_i r2 hm;cases h;obtain ⟨I,n,G,h3⟩:=ih (.expr (d+1)) r0 t r1 ho0 trivial hx;exact ⟨I,_,(vq.trans G).trans (Sf.aR ar hm),by simp only [yX] at *;omega⟩
        ·cases h
      ·split at h
       ·rename_i hk;cases h;obtain ⟨k1,k2,k3⟩:=(ho t0 mem_cons_self).num hk;exact ⟨⟨.num t0.n,by simp only [E.ok];simp [k1,k2],by rw [er,bf,E.tree]⟩,1,vq,by simp only [yX,aQ,aB];omega⟩
       ·split at h
        ·cases h
        ·rename_i s r1 dF;obtain ⟨k1,k2⟩:=Sf.name dF ho;split at h
         ·rename_i hb;have k3:=k1.trans (Sf.sign ar hb);split at h
          ·cases h
          ·rename_i a r2 hx;split at h
           ·cases h
           ·rename_i r3 hm;cases h;obtain ⟨⟨a',h0,I⟩,n,G,h3⟩:=ih (.expr (d+1)) _ a r2 (k3.ok ho) trivial hx;refine ⟨⟨.at_ s a',by simp only [E.ok,k2,h0];rfl,by rw [eW,bf,bf,I,E.tree]⟩,_,(k3.trans G).trans (Sf.aR ar hm),?_⟩;exact zej
         ·split at h
          ·rename_i hb;have k3:=k1.trans (Sf.sign ar hb);split at h
           ·cases h
           ·rename_i l r2 hx;cases h;obtain ⟨⟨es,h0,I⟩,n,G,h3⟩:=Bz _ _ _ l r (k3.ok ho) ⟨[],rfl,rfl⟩ hx;refine ⟨⟨.call s es,by simp only [E.ok,k2,h0];rfl,by rw [eW,I,E.tree]⟩,_,k3.trans G,?_⟩;exact zej
          ·cases h;exact ⟨⟨.name s,by simp only [E.ok,k2],by rw [eW,bf,E.tree]⟩,1,k1,by simp only [yX,lY,aB];omega⟩
  ·rw [rd.args] at h;split at h
   ·rename_i hc;cases h;exact ⟨hj,1,Sf.sign ar hc,by omega⟩
   ·split at h
    ·cases h
    ·rename_i BW hx
     have h0:Sf ts BW 0:=by
      split at hx
      ·cases hx;exact .nil _
      ·exact (Sf.aR ar hx).le (aS _)
     split at h
     ·cases h
     ·rename_i a zq hy;obtain ⟨I,n,G,h3⟩:=ih (.expr d) BW a zq (h0.ok ho) trivial hy;have h4:=h0.trans G;obtain ⟨k1,m,k2,k3⟩:=Bz _ (acc++[a]) zq l r (h4.ok ho) (hj.snoc I) h;refine ⟨k1,_,h4.trans k2,?_⟩;simp only [yX,qu,aB] at *;omega
theorem A6 {e:Int} {d:Nat} {ts r:List Tok} {t:T} (ho:vd ts) (h:expr e d ts=.ok (t,r)):EF t/\Sf ts r (aQ t):=by
 obtain ⟨I,n,G,h3⟩:=(Y8 e _).1 (.expr d) ts t r ho trivial h;exact ⟨I,G.le (by simpa [yX] using h3)⟩
theorem zV {e:Int} {d:Nat} {a b:ae} {ts r:List Tok} {t:T} (ha:a≠[]) (hb:b≠[]) (ho:vd ts) (h:inner e d a b ts=.ok (t,r)):EF t/\Sf ts r (aQ t+2):=by
 unfold inner at h;split at h
 ·cases h
 ·rename_i BW I;have k1:=Sf.aR ha I;split at h
  ·cases h
  ·rename_i t' zq G;obtain ⟨k2,k3⟩:=A6 (k1.ok ho) G;split at h
   ·cases h
   ·rename_i ts3 h3;cases h;exact ⟨k2,((k1.trans k3).trans (Sf.aR hb h3)).le av⟩
theorem Fh {e:Int} {d:Nat} {ts r:List Tok} {s:ae} {t:T} (ho:vd ts) (h:nZ e d ts=.ok ((s,t),r)):bT s=true/\EF t/\Sf ts r (aQ t+3):=by
 unfold nZ at h;split at h
 ·cases h
 ·rename_i s' BW I;obtain ⟨k1,k2⟩:=Sf.name I ho;split at h
  ·cases h
  ·rename_i t' zq G;cases h;obtain ⟨k3,k4⟩:=zV ar ar (k1.ok ho) G;exact ⟨k2,k3,(k1.trans k4).le av⟩
def SF (t:T):Prop:=∃ a:S,a.ok=true/\er t=a.tree
def Qu (l:List T):Prop:=∃ es:List S,S.dT es=true/\bf l=S.trees es
def BF (t:T):Prop:=∃ l:List S,S.dT l=true/\er t=cR l
theorem Qu.snoc {l:List T} {t:T} (h:Qu l) (k:SF t):Qu (l++[t]):=by
 obtain ⟨es,I,G⟩:=h;obtain ⟨a,h3,h4⟩:=k
 have key:∀ es:List S,S.dT es=true->S.dT (es++[a])=true/\S.trees (es++[a])=S.trees es++[a.tree]:=by
  intro es
  induction es with
  | nil=>intro _;simp [S.dT,S.trees,h3]
  | cons b es ih =>
   intro h;simp only [S.dT,aK] at h;obtain ⟨k1,k2⟩:=ih h.2;simp only [cons_append,S.dT,S.trees,k1,k2,h.1];simp
 exact zee
theorem VS {t:T} (h:EF t) (hk:t.n.kind=3):∃ (s:ae) (a:T),t.kids=[a]/\t.n.s=s/\bT s=true/\EF a:=by
 obtain ⟨a,I,G⟩:=h;have h3:=congrArg (fun x=>x.n.kind) G;simp only [A3,hk] at h3
 cases a with
 | at_ s b =>
  simp only [E.ok,aK] at I
  have h4:t.n.s=s:=by have:=congrArg (fun x=>x.n.s) G;simp only [A3] at this;exact this
  have h5:bf t.kids=[b.tree]:=by rw [<-Yn,G];rfl
  match hl:t.kids,h5 with
  | [x],h5 =>
   rw [bf,bf] at h5
   injection h5 with h6
   exact ⟨s,x,rfl,h4,I.1,b,I.2,h6⟩
  | [],h5=>rw [bf] at h5;cases h5
  | x::y::r,h5=>rw [bf,bf] at h5;injection h5 with h6 h7;cases h7
 | num n=>exact zfe
 | name n=>exact zfe
 | call s l=>exact zfe
 | un s a=>exact zfe
 | bin s a b=>exact zfe
theorem Mj {e:Int} {d:Nat} {ts r:List Tok} {t:T} (ho:vd ts) (h:simple e d ts=.ok (t,r)):SF t/\Sf ts r (aQ t):=by
 unfold simple at h;split at h
 ·exact zfs
 ·rename_i t0 r0;split at h
  ·split at h
   ·cases h
   ·rename_i s a BW I;cases h;obtain ⟨k1,⟨a',k2,k3⟩,k4⟩:=Fh ho I;exact ⟨⟨.set s a',by simp only [S.ok,k1,k2];rfl,by rw [eW,bf,bf,k3,S.tree]⟩,k4.le zgn⟩
  ·split at h
   ·cases h
   ·rename_i a BW I;obtain ⟨k1,k2⟩:=A6 ho I;split at h
    ·rename_i hc;split at h
     ·cases h
     ·rename_i v zq G;cases h;obtain ⟨⟨v',k3,k4⟩,k5⟩:=zV ar ar (k2.ok ho) G;obtain ⟨s,x,k6,k7,k8,x',k9,k10⟩:=VS k1 hc.1;have hz:=fH a;rw [k6] at hz;simp only [aB] at hz;rw [k6];refine ⟨⟨.put s x' v',by simp only [S.ok,k8,k9,k3];rfl,?_⟩,(k2.trans k5).le ?_⟩
      ·rw [eW,k7];simp only [take_succ_cons,take_zero,cons_append,nil_append,bf,k10,k4,S.tree]
      ·simp only [take_succ_cons,take_zero,cons_append,nil_append,lY,aB];omega
    ·split at h
     ·cases h
     ·rename_i zq G;cases h;obtain ⟨a',k3,k4⟩:=k1;exact ⟨⟨.do_ a',by simp only [S.ok,k3],by rw [eW,bf,bf,k4,S.tree]⟩,(k2.trans (Sf.aR ar G)).le zgn⟩
theorem Zb (e:Int):∀ f,(∀ d ts t r,vd ts->rs e f (.block d) ts=.ok (t,r)->BF t/\Sf ts r (aQ t))/\(∀ d ts t r,vd ts->rs e f (.stmt d) ts=.ok (t,r)->SF t/\Sf ts r (aQ t)) /\
  (∀ d acc ts l r,vd ts->Qu acc->rs.body e f d acc ts=.ok (l,r)->Qu l/\∃ n,Sf ts r n/\aB l+1<=n+aB acc):=by
 intro f
 induction f with
 | zero=>exact ⟨fun d ts t r _ h=>by simp [rs] at h,fun d ts t r _ h=>by simp [rs] at h,fun d acc ts l r _ _ h=>by simp [rs.body] at h⟩
 | succ f ih =>
  obtain ⟨ihb,ihs,ihl⟩:=ih;refine ⟨fun d ts t r ho h=>?_,fun d ts t r ho h=>?_,fun d acc ts l r ho hj h=>?_⟩
  ·rw [rs] at h;split at h
   ·cases h
   ·split at h
    ·cases h
    ·rename_i r1 I;have k1:=Sf.aR ar I;split at h
     ·cases h
     ·rename_i l r2 G;cases h;obtain ⟨⟨es,k2,k3⟩,n,k4,k5⟩:=ihl _ [] r1 l r (k1.ok ho) ⟨[],rfl,rfl⟩ G;exact ⟨⟨es,k2,by rw [eW,k3,cR]⟩,(k1.trans k4).le (by simp only [lY,aB] at *;omega)⟩
  ·rw [rs] at h;split at h
   ·cases h
   ·simp only at h;split at h
    ·rename_i hs;have k0:=Sf.sign ar hs;split at h
     ·cases h
     ·rename_i s a BW I;cases h;obtain ⟨k1,⟨a',k2,k3⟩,k4⟩:=Fh (k0.ok ho) I;exact ⟨⟨.var s a',by simp only [S.ok,k1,k2];rfl,by rw [eW,bf,bf,k3,S.tree]⟩,(k0.trans k4).le zgn⟩
    ·split at h
     ·rename_i hs
      have k0:Sf ts ts.tail 1:=by
       rcases hs with hs | hs
       ·exact Sf.sign ar hs
       ·exact Sf.sign ar hs
      split at h
      ·cases h
      ·rename_i c r1 I;obtain ⟨⟨c',k1,k2⟩,k3⟩:=zV ar ar (k0.ok ho) I;have k4:=k0.trans k3;split at h
       ·cases h
       ·rename_i b r2 G;obtain ⟨⟨lb,k5,k6⟩,k7⟩:=ihb _ _ b r2 (k4.ok ho) G;have k8:=k4.trans k7;split at h
        ·split at h
         ·rename_i eH;have k9:=k8.trans (Sf.sign ar eH);split at h
          ·cases h
          ·rename_i b2 r3 h3;cases h;obtain ⟨⟨lb2,j5,j6⟩,j7⟩:=ihb _ _ b2 r (k9.ok ho) h3;refine ⟨⟨.if2 c' lb lb2,by simp only [S.ok,k1,k5,j5];rfl,?_⟩,(k9.trans j7).le zgn⟩;rw [eW,bf,bf,bf,bf,k2,k6,j6,S.tree,cR,cR]
         ·cases h;refine ⟨⟨.if1 c' lb,by simp only [S.ok,k1,k5];rfl,?_⟩,k8.le zgn⟩;rw [eW,bf,bf,bf,k2,k6,S.tree,cR]
        ·cases h;refine ⟨⟨.while_ c' lb,by simp only [S.ok,k1,k5];rfl,?_⟩,k8.le zgn⟩;rw [eW,bf,bf,bf,k2,k6,S.tree,cR]
     ·split at h
      ·rename_i hs;have k0:=Sf.sign ar hs;split at h
       ·cases h
       ·rename_i a BW I;obtain ⟨⟨a',k1,k2⟩,k3⟩:=A6 (k0.ok ho) I;split at h
        ·cases h
        ·rename_i zq G;cases h;exact ⟨⟨.ret a',by simp only [S.ok,k1],by rw [eW,bf,bf,k2,S.tree]⟩,((k0.trans k3).trans (Sf.aR ar G)).le zgn⟩
      ·exact Mj ho h
  ·rw [rs.body] at h;split at h
   ·rename_i hc;cases h;exact ⟨hj,1,Sf.sign ar hc,by omega⟩
   ·split at h
    ·cases h
    ·rename_i a BW I;obtain ⟨k1,k2⟩:=ihs _ ts a BW ho I;obtain ⟨k3,m,k4,k5⟩:=ihl _ (acc++[a]) BW l r (k2.ok ho) (hj.snoc k1) h;refine ⟨k3,_,k2.trans k4,?_⟩;simp only [qu,aB] at *;omega
theorem OI {e:Int} {d:Nat} {ts r:List Tok} {t:T} (ho:vd ts) (h:block e d ts=.ok (t,r)):BF t/\Sf ts r (aQ t):=(Zb e _).1 _ ts t r ho h
end Go.Im
namespace Go.Sp
open Go.Xp
def fB (x:ae) (l:List K):Prop:=∀ pre post:ae,∃ ts,ts.map kf=l/\Tz (pre++(x++post)) pre.length ts (pre.length+x.length)
def jW (x:ae) (l:List K):Prop:=∀ pre post:ae,Sep post->∃ ts,ts.map kf=l/\Tz (pre++(x++post)) pre.length ts (pre.length+x.length)
theorem fB.s {x:ae} {l:List K} (h:fB x l):jW x l:=fun pre post _=>h pre post
theorem fB.app {x y:ae} {l m:List K} (h:fB x l) (k:fB y m):fB (x++y) (l++m):=by
 intro pre post;obtain ⟨ts,I,G⟩:=h pre (y++post);obtain ⟨us,h3,h4⟩:=k (pre++x) post;exact zbu
theorem fB.apps {x y:ae} {l m:List K} (h:fB x l) (k:jW y m):jW (x++y) (l++m):=by
 intro pre post hp;obtain ⟨ts,I,G⟩:=h pre (y++post);obtain ⟨us,h3,h4⟩:=k (pre++x) post hp;exact zbu
theorem jW.IL {x y:ae} {l m:List K} (h:jW x l) (k:fB y m) (hs:∀ post,Sep (y++post)):fB (x++y) (l++m):=by
 intro pre post;obtain ⟨ts,I,G⟩:=h pre (y++post) (hs post);obtain ⟨us,h3,h4⟩:=k (pre++x) post;exact zbu
theorem fB.nil:fB [] []:=fun pre post=>⟨[],rfl,.nil _⟩
theorem BP {c:UInt8} {x:ae} (h:c∈Gi):∀ post,Sep (c::x++post):=fun post d hd=>by cases hd;exact h
theorem wH {pre x:ae}:(pre++x).drop pre.length=x:=drop_left
theorem Tz.one {s:ae} {a a':Nat} {c:UInt8} {t:Tok} (hc:s[a]?=some c) (hb:fY c=false) (hr:cv s a [47,42]=false) (ht:ia s a c=(t,a')) (hk:t.kind=1\/t.kind=2\/t.kind=3) (hn:t.n<=2147483647) (ha:a < a'):Tz s a [t] a' :=
 .tok hc hb hr ht hk hn ha (.nil _)
theorem BE {c:UInt8} (h:fY c=true):fB [c] []:=by
 intro pre post;have hd:(pre++([c]++post)).drop pre.length=c::post:=wH;obtain ⟨I,_,_⟩:=qo hd;exact ⟨[],rfl,.blank I h (.nil _)⟩
theorem pM {c:UInt8} (hm:c∈[40,41,91,93,44,59,123,125]):fB [c] [kS [c]]:=by
 intro pre post;have hd:(pre++([c]++post)).drop pre.length=c::post:=wH;obtain ⟨I,_,h4⟩:=qo hd;obtain ⟨G,h3,h5⟩:=US (Nat.le_of_lt h4) hd hm;exact ⟨[_],rfl,Tz.one I h3 h5 G zf8 zf8 zf8⟩
theorem DP {w:ae} (hm:w∈cr):jW w [kS w]:=by
 intro pre post hp;have hd:(pre++(w++post)).drop pre.length=w++post:=wH
 have cj:w≠[]:=by rintro rfl;revert hm;decide
 obtain ⟨c,r,hw⟩:=List.exists_cons_of_ne_nil cj;have qb:=hd;rw [hw,cons_append] at qb;obtain ⟨I,_,h4⟩:=qo qb;rw [<-cons_append,<-hw] at I h4;obtain ⟨G,h3,h5⟩:=V0 (Nat.le_of_lt h4) hd hw hm hp
 have:0 < w.length:=by rw [hw];simp
 exact ⟨[_],rfl,Tz.one I h3 h5 G zf8 zf8 av⟩
theorem Mk {c:UInt8} (h:small c=true):fY c=false/\c≠47:=by
 simp only [small,aK] at h;have I:=n8 h.1;refine ⟨?_,fun h0=>?_⟩
 ·exact zfv
 ·subst h0;revert I;decide
theorem HB {s r:ae} {a:Nat} {c:UInt8} (h:s.drop a=c::r) (hc:c≠47):cv s a [47,42]=false:=by
 obtain ⟨_,_,h4⟩:=qo h;rw [x8 h (Nat.le_of_lt h4)];simp only [List.isPrefixOf]
 have:((47:UInt8)==c)=false:=by rw [beq_eq_false_iff_ne];exact fun h=>hc h.symm
 rw [this,Bool.false_and]
theorem Kh {w:ae} (hw:word w=true):jW w [if words.contains w then kS w else kN w]:=by
 intro pre post hp;have hd:(pre++(w++post)).drop pre.length=w++post:=wH;simp only [word,aK,jb] at hw
 match w,hw,hd with
 | [],hw,_=>simp at hw
 | c::r,hw,hd =>
  obtain ⟨bj,hs⟩:=hw;have qb:=hd;rw [cons_append] at qb;obtain ⟨I,_,h4⟩:=qo qb;obtain ⟨h3,h5⟩:=Mk hs;have ht:=Wo (Nat.le_of_lt h4) hd rfl hs bj hp.ff;refine ⟨[_],?_,Tz.one I h3 (HB qb h5) ht ?_ zf8 zf8⟩
  ·simp only [List.map_cons,List.map_nil,kf,kS,kN];split <;> rfl
  ·simp only;split <;> simp
theorem mY {w:ae} (hw:bT w=true):jW w [kN w]:=by
 simp only [bT,aK,Bool.not_eq_true'] at hw;have:=Kh hw.1.1;rw [ab (by rw [hw.2];decide)] at this;exact this
theorem SV {w:ae} (hw:w∈words):jW w [kS w]:=by
 have I:∀ w∈words,word w=true:=by decide
 have:=Kh (I w hw);rw [ah (by simpa using hw)] at this;exact this
theorem NH {n:Nat} (hn:n<=2147483647):jW (iD n) [kI n]:=by
 intro pre post hp;have hd:(pre++(iD n++post)).drop pre.length=iD n++post:=wH;obtain ⟨I,G,h3⟩:=MH n;obtain ⟨c,r,hw⟩:=List.exists_cons_of_ne_nil h3;have qb:=hd;rw [hw,cons_append] at qb;obtain ⟨h4,_,h5⟩:=qo qb;rw [<-cons_append,<-hw] at h4 h5;have hc:eV c=true:=I c (by rw [hw];exact mem_cons_self)
 have Hj:fY c=false/\c≠47:=by
  simp only [eV,aK] at hc;have I:=n8 hc.1;refine ⟨?_,fun h0=>?_⟩
  ·exact zfv
  ·subst h0;revert I;decide
 have ht:=YY (Nat.le_of_lt h5) hd hw hn hp.eV
 have:0 < (iD n).length:=by rw [hw];simp
 refine ⟨[_],rfl,Tz.one h4 Hj.1 ?_ ht zf8 (by simpa using by omega) av⟩;have hd3:=qb;rw [<-cons_append,<-hw] at hd3;rw [hw] at hd3 |-;exact HB hd3 Hj.2
theorem aaN {s:ae} (h:jc s=true):s∈cr:=by
 have hm:s∈levels.flatten:=by
  exact zc4
 have key:∀ s∈levels.flatten,s∈cr:=by decide
 exact key s hm
theorem P6:fB [32] []:=BE ar
theorem jW.then {x:ae} {l:List K} (h:jW x l) {c:UInt8} (hm:c∈[40,41,91,93,44,59,123,125]):fB (x++[c]) (l++[kS [c]]) :=
 h.IL (pM hm) (BP (by revert hm;unfold Gi;simp only [List.mem_cons,List.not_mem_nil,or_false];rintro (h | h | h | h | h | h | h | h) <;> simp [h]))
theorem jW.sp {x:ae} {l:List K} (h:jW x l):fB (x++[32]) l:=by
 have:=h.IL P6 (BP ar);rw [dN] at this;exact this
theorem jW.eq {x:ae} {l l':List K} (h:jW x l) (e:l=l'):jW x l':=e ▸ h
theorem fB.eq {x:ae} {l l':List K} (h:fB x l) (e:l=l'):fB x l':=e ▸ h
theorem F4 {lv k:Nat} {x:ae} {l:List K} (h:jW x l):jW (uc lv k x) (brk lv k l):=by
 unfold uc brk;split
 ·have:=((pM (c:=40) ar).apps h).then (c:=41) ar;exact this.s.eq zf8
 ·exact h
mutual
theorem sB:∀ a:E,a.ok=true->jW a.bK a.tk
 | .num n,h=>by
  simp only [E.ok,aK] at h;have I:=n8 h.1;have G:=n8 h.2;have:=NH (n:=n.toNat) av;rw [E.bK,E.tk];rw [Int.toNat_of_nonneg I] at this;exact this
 | .name s,h=>by rw [E.bK,E.tk];exact mY h
 | .at_ s a,h=>by
  simp only [E.ok,aK] at h;rw [E.bK,E.tk];exact ((((mY h.1).then (c:=91) ar).apps (sB a h.2)).then (c:=93) ar).s.eq zf8
 | .call s l,h=>by
  simp only [E.ok,aK] at h;rw [E.bK,E.tk];exact ((((mY h.1).then (c:=40) ar).apps (acd l h.2)).then (c:=41) ar).s.eq zf8
 | .un s a,h=>by
  simp only [E.ok,aK,Bool.or_eq_true,beq_iff_eq] at h;rw [E.bK,E.tk]
  have hs:s∈cr:=by rcases h.1 with (h | h) | h <;> (rw [h];decide)
  exact ((DP hs).sp.apps (F4 (sB a h.2))).eq zf8
 | .bin s a b,h=>by
  simp only [E.ok,aK] at h;rw [E.bK,E.tk];exact ((((F4 (sB a h.1.2)).sp.apps (DP (aaN h.1.1))).sp).apps (F4 (sB b h.2))).eq zf8
theorem acd:∀ l:List E,E.dT l=true->jW (cM (E.dR l)) (E.qn l)
 | [],_=>fB.nil.s
 | a::l,h=>by
  simp only [E.dT,aK] at h;rw [E.dR,E.qn,cM];exact Xs l h.2 _ _ (sB a h.1)
theorem Xs:∀ l:List E,E.dT l=true->∀ x m,jW x m->jW (x++(E.dR l).flatMap fun y=>44::32::y) (m++E.tW l)
 | [],_,x,m,hx=>by rw [E.dR,E.tW];simpa using hx
 | a::l,h,x,m,hx=>by
  simp only [E.dT,aK] at h;have I:=((hx.then (c:=44) ar).app P6).apps (sB a h.1);have G:=Xs l h.2 _ _ I;rw [E.dR,E.tW,flatMap_cons]
  have e1:x++((44::32::a.bK)++(E.dR l).flatMap fun y=>44::32::y)=(x++[44]++[32]++a.bK)++(E.dR l).flatMap fun y=>44::32::y:=by simp
  rw [e1];exact G.eq zf8
end
theorem jW.set {x:ae} {l:List K} (h:jW x l):fB (x++[32,61,32]) (l++[kS [61]]):=by
 have:=(h.sp.apps (DP (w:=[61]) ar)).sp;exact zcm
theorem xM {w:ae} (hw:w∈words):fB (w++[32]) [kS w]:=(SV hw).sp
mutual
theorem ace:∀ s:S,s.ok=true->fB (s.bK E.bK) s.tk
 | .set s a,h=>by
  simp only [S.ok,aK] at h;rw [S.bK,S.tk];exact (((mY h.1).set.apps (sB a h.2)).then (c:=59) ar).eq zf8
 | .put s a b,h=>by
  simp only [S.ok,aK] at h;rw [S.bK,S.tk];have I:=((((mY h.1).then (c:=91) ar).apps (sB a h.2.1)).then (c:=93) ar).s.set;have G:=(I.apps (sB b h.2.2)).then (c:=59) ar
  have e:s++[91]++a.bK++[93,32,61,32]++b.bK++[59]=s++[91]++a.bK++[93]++[32,61,32]++b.bK++[59]:=by simp
  rw [e];exact G.eq zf8
 | .if1 c b,h=>by
  simp only [S.ok,aK] at h;rw [S.bK,S.tk];have I:=((((xM (w:=[105,102]) ar).app (pM (c:=40) ar)).apps (sB c h.1)).then (c:=41) ar).s.sp;have G:=I.app (lexB b h.2)
  have e:[105,102,32,40]++c.bK++[41,32]++(S.dR E.bK [123,32] b++[125])=[105,102]++[32]++[40]++c.bK++[41]++[32]++(S.dR E.bK [123,32] b++[125]):=by simp
  rw [e];exact G.eq (by simp [ir])
 | .if2 c b b2,h=>by
  simp only [S.ok,aK] at h;rw [S.bK,S.tk];have I:=((((xM (w:=[105,102]) ar).app (pM (c:=40) ar)).apps (sB c h.1)).then (c:=41) ar).s.sp;have G:=I.app (lexB b h.2.1);have h3:=((G.s.sp.apps (SV (w:=[101,108,115,101]) ar)).sp).app (lexB b2 h.2.2)
  have e:[105,102,32,40]++c.bK++[41,32]++(S.dR E.bK [123,32] b++[125])++[32,101,108,115,101,32]++(S.dR E.bK [123,32] b2++[125])=[105,102]++[32]++[40]++c.bK++[41]++[32]++(S.dR E.bK [123,32] b++[125])++[32]++[101,108,115,101]++[32]++(S.dR E.bK [123,32] b2++[125]):=by simp
  rw [e];exact h3.eq (by simp [ir,km])
 | .while_ c b,h=>by
  simp only [S.ok,aK] at h;rw [S.bK,S.tk];have I:=((((xM (w:=[119,104,105,108,101]) ar).app (pM (c:=40) ar)).apps (sB c h.1)).then (c:=41) ar).s.sp;have G:=I.app (lexB b h.2)
  have e:[119,104,105,108,101,32,40]++c.bK++[41,32]++(S.dR E.bK [123,32] b++[125])=[119,104,105,108,101]++[32]++[40]++c.bK++[41]++[32]++(S.dR E.bK [123,32] b++[125]):=by simp
  rw [e];exact G.eq (by simp [jd])
 | .ret a,h=>by
  simp only [S.ok] at h;rw [S.bK,S.tk];have I:=((xM (w:=[114,101,116,117,114,110]) ar).apps (sB a h)).then (c:=59) ar;exact I.eq (by simp [iR])
 | .do_ a,h=>by
  simp only [S.ok] at h;rw [S.bK,S.tk];exact (sB a h).then (c:=59) ar
 | .var s a,h=>by
  simp only [S.ok,aK] at h;rw [S.bK,S.tk];have I:=((((xM (w:=[118,97,114]) ar).apps (mY h.1)).set).apps (sB a h.2)).then (c:=59) ar;exact I.eq (by simp [oE])
theorem lexB:∀ l:List S,S.dT l=true->fB (S.dR E.bK [123,32] l++[125]) (kS [123]::(S.qn l++[kS [125]]))
 | l,h=>by
  have h0:fB [123,32] [kS [123]]:=by
   have:=(pM (c:=123) ar).s.sp;exact zcm
  exact ((Xt l h _ _ h0).s.then (c:=125) ar).eq zf8
theorem Xt:∀ l:List S,S.dT l=true->∀ acc m,fB acc m->fB (S.dR E.bK acc l) (m++S.qn l)
 | [],_,acc,m,h=>by rw [S.dR,S.qn,dN];exact h
 | a::l,ho,acc,m,h=>by
  simp only [S.dT,aK] at ho;rw [S.dR,S.qn];have I:=(h.app (ace a ho.1)).s.sp;exact (Xt l ho.2 _ _ I).eq zf8
end
theorem fB.all {x:ae} {l:List K} (h:fB x l):∃ ts,ts.map kf=l/\Tz x 0 ts x.length:=by
 obtain ⟨ts,I,G⟩:=h [] [];exact ⟨ts,I,by simpa using G⟩
theorem NF {l:List S} (h:S.dT l=true):fB (ik E.bK l) (OH l):=lexB l h
end Go.Sp
namespace Go.Im
open Go.Xp Go.Sp
def RF (s:ae):List K:=[kS jU,kN s,kS [59]]
def Mq (a:Ar):List K:=[kS jU,kN a.name,kS [91],kI a.size,kS [93],kS [59]]
def yh:List ae->List K
 | []=>[]
 | s::r=>kS [44]::kN s::yh r
def KA:List ae->List K
 | []=>[]
 | s::r=>kN s::yh r
def MR (x:Fn × List S):List K:=kS ko::kN x.1.name::kS [40]::(KA x.1.params++kS [41]::OH x.2)
def oQ (x:Fn × List S):ae:=((((([102,117,110,99,32]++x.1.name)++[40])++cM x.1.params)++[41,32])++ik E.bK x.2)++[10]
theorem NG:fB [59,10] [kS [59]]:=(pM (c:=59) ar).app (BE (c:=10) ar)
theorem ach {s:ae} (h:bT s=true):fB (g1 s) (RF s) :=
 ((xM (w:=jU) ar).apps (mY h)).IL NG (BP (c:=59) (x:=[10]) ar)
theorem acf {a:Ar} (h:rL a=true):fB (a1 a) (Mq a):=by
 unfold rL at h;simp only [aK,Bool.not_eq_true',decide_eq_false_iff_not] at h;obtain ⟨⟨I,G⟩,h3⟩:=h
 have hz:sn a.size=iD a.size.toNat:=by unfold sn;rw [ab G]
 have hk:kI a.size=kI ((a.size.toNat:Nat):Int):=by rw [Int.toNat_of_nonneg av]
 have x1:=((xM (w:=jU) ar).apps (mY I)).then (c:=91) ar;have x2:=x1.apps (NH (n:=a.size.toNat) av);have x3:=x2.IL ((pM (c:=93) ar).app NG) (BP (c:=93) (x:=[59,10]) ar);unfold a1 Mq;rw [hz,hk];exact x3
theorem SW:∀ (ps:List ae),dA ps=true->∀ x m,jW x m->jW (x++ps.flatMap fun y=>44::32::y) (m++yh ps)
 | [],_,x,m,h=>by rw [List.flatMap_nil,dN,yh,dN];exact h
 | s::r,hp,x,m,h=>by
  unfold dA at hp;rw [all_cons,aK] at hp;have I:=(h.then (c:=44) ar).app P6;have G:=I.apps (mY hp.1);have h3:=SW r hp.2 _ _ G;rw [flatMap_cons,yh];refine jW.eq (cast (congrArg (fun z=>jW z _) ?_) h3) ?_
  ·simp
  ·simp
theorem aci {ps:List ae} (h:dA ps=true):jW (cM ps) (KA ps):=by
 match ps,h with
 | [],_=>exact fB.nil.s
 | s::r,h =>
  unfold dA at h;rw [all_cons,aK] at h;exact SW r h.2 s [kN s] (mY h.1)
theorem acg {x:Fn × List S} (I:bT x.1.name=true) (G:dA x.1.params=true) (h3:S.dT x.2=true):fB (oQ x) (MR x):=by
 have x1:=((xM (w:=ko) ar).apps (mY I)).then (c:=40) ar;have x2:=(x1.apps (aci G)).IL ((pM (c:=41) ar).app P6) (BP (c:=41) (x:=[32]) ar);have x3:=(x2.app (NF h3)).app (BE (c:=10) ar);refine fB.eq x3 ?_;simp [MR]
theorem Cv {α:Type} {f:α->ae} {k:α->List K}:∀ (l:List α),(∀ x∈l,fB (f x) (k x))->∀ acc m,fB acc m->fB (eB f acc l) (m++l.flatMap k)
 | [],_,acc,m,h=>by rw [eB,List.flatMap_nil,dN];exact h
 | x::l,hl,acc,m,h=>by
  rw [eB,flatMap_cons,<-eF];exact Cv l (fun y hy=>hl y (dK _ hy)) _ _ (h.app (hl x mem_cons_self))
theorem QM {inl:List ae->Nat->ae}:∀ (fns:List Fn) (l:List T) (ls:List (List S)) (acc:ae),ls.length=l.length->(∀ (i:Nat) t b,l[i]?=some t->ls[i]?=some b->qC ed inl 0 t=ik E.bK b) ->
  eB (ef ed inl) acc (fns.zip l)=eB oQ acc (fns.zip ls)
 | [],l,ls,acc,_,_=>by simp [eB]
 | f::r,[],[],acc,_,_=>by simp [eB]
 | f::r,t::l,b::ls,acc,hl,h=>by
  have h0:=h 0 t b rfl rfl;rw [zip_cons_cons,zip_cons_cons,eB,eB,QM r l ls _ zge fun i t' b' I G=>h (i+1) t' b' zgf zgq];simp only [ef,oQ,h0]
 | f::r,[],b::ls,acc,hl,_=>by simp at hl
 | f::r,t::l,[],acc,hl,_=>by simp at hl
section
variable {p q:RS} {ts r rest:List Tok} {u:Tok} {s:ae}
theorem tX (h:On p (u::r)):tok p 0=u:=by rw [On.tok h];rfl
theorem DK (h:On p (u::r)) (hk:kf u=kS s):is p 0 s=true:=by
 obtain ⟨I,G⟩:=fv hk;unfold is;rw [tX h,I,G];simp
theorem Po (h:On p (u::r)) {k:K} (hk:kf u=k) (hn:k.1=3->k.2.2≠s):is p 0 s=false:=by
 unfold is;rw [tX h];subst hk
 by_cases h3:u.kind=3
 ·have:=hn h3;simp only [kf] at this;simp [h3,this]
 ·simp [h3]
theorem xo (h:On p (u::r)) (hk:kf u=kS s):want p s=p.next:=by unfold want;rw [ah h.code,ah (DK h hk)]
theorem BH (h:On p (u::r)) (hk:kf u=kN s) (hl:bT s=true):bO p=p.next:=by
 obtain ⟨I,G⟩:=tN hk;have:=pN hl;unfold bO;rw [ah h.code,tX h,ah I,ab (by rw [G];omega)]
theorem nx (h:On p (u::r)):On p.next r:=h.next.1
theorem fL (h:On p (u::r)):p.next.l=p.l/\p.next.e=p.e:=⟨h.next.2.1,h.next.2.2⟩
theorem adP (h:On p (u::r)):p.i < p.l.length:=by
 have:=congrArg List.length h.rest;rw [lE,length_cons] at this;omega
theorem aaP (h:On p []):¬ p.i < p.l.length:=by
 have:=congrArg List.length h.rest;rw [lE,length_nil] at this;omega
theorem Ns {aeK f:Nat} {st:PS} (h:p.code≠0) (hg:1<=aeK):qG aeK f p st=some (p,st):=by
 obtain ⟨aeK,rfl⟩:∃ g',aeK=g'+1:=⟨aeK - 1,by omega⟩;rw [qG,ab (fun hc=>h hc.1)]
theorem Cu {f:Nat} {acc:List ae} (h:p.code≠0) (hg:1<=f):r7 f acc p=some (acc,p):=by
 obtain ⟨f,rfl⟩:∃ g',f=g'+1:=⟨f - 1,by omega⟩;rw [r7,ab (fun hc=>h hc.1),iX h]
end
theorem adK {f:Nat} {p:RS} {st:PS} {ts rest:List Tok} {s:ae} (hp:On p (ts++rest)) (ht:ts.map kf=RF s) (hs:bT s=true) :
  ∃ q,iW f p st=some (q,{ st with globals:=st.globals++[s] })/\cE p q (.ok rest):=by
 obtain ⟨u,r,rfl,I,ht⟩:=map_cons ht;obtain ⟨v,r,rfl,G,ht⟩:=map_cons ht;obtain ⟨w,rfl,h3⟩:=ky ht;simp only [cons_append,nil_append] at hp;have p1:=nx hp;have p2:=nx p1;have p3:=nx p2;refine ⟨p.next.next.next,?_,p3,by rw [(fL p2).1,(fL p1).1,(fL hp).1],by rw [(fL p2).2,(fL p1).2,(fL hp).2]⟩;unfold iW;rw [ah (DK hp I),BH p1 G hs,Po p2 h3 ar,ab (by rintro ⟨_,h⟩;cases h),xo p2 h3,tX p1,(tN G).2]
theorem adI {f:Nat} {p:RS} {st:PS} {ts rest:List Tok} {a:Ar} (hp:On p (ts++rest)) (ht:ts.map kf=Mq a) (hs:bT a.name=true) :
  ∃ q,iW f p st=some (q,{ st with arrays:=st.arrays++[a] })/\cE p q (.ok rest):=by
 obtain ⟨u,r,rfl,I,ht⟩:=map_cons ht;obtain ⟨v,r,rfl,G,ht⟩:=map_cons ht;obtain ⟨w,r,rfl,h3,ht⟩:=map_cons ht;obtain ⟨x,r,rfl,h4,ht⟩:=map_cons ht;obtain ⟨y,r,rfl,h5,ht⟩:=map_cons ht;obtain ⟨z,rfl,h6⟩:=ky ht;simp only [cons_append,nil_append] at hp;have p1:=nx hp;have p2:=nx p1;have p3:=nx p2;have p4:=nx p3;have p5:=nx p4;have p6:=nx p5;refine ⟨p.next.next.next.next.next.next,?_,p6,by rw [(fL p5).1,(fL p4).1,(fL p3).1,(fL p2).1,(fL p1).1,(fL hp).1],by rw [(fL p5).2,(fL p4).2,(fL p3).2,(fL p2).2,(fL p1).2,(fL hp).2]⟩;unfold iW;rw [ah (DK hp I),BH p1 G hs,ah ⟨p2.code,DK p2 h3⟩,tX p3,ah (Vl h4).1,xo p4 h5,xo p5 h6,tX p1,(tN G).2,(Vl h4).2]
theorem Xl {rest:List Tok} {u:Tok} (hu:kf u=kS [41]):∀ (ps:List ae) (f:Nat) (acc:List ae) (p:RS) (ts:List Tok),ps.length < f->acc≠[]->dA ps=true->On p (ts++u::rest)->ts.map kf=yh ps ->
  ∃ q,r7 f acc p=some (acc++ps,q)/\cE p q (.ok rest)
 | [],f,acc,p,ts,hf,ha,_,hp,ht=>by
  obtain ⟨f,rfl⟩:∃ g',f=g'+1:=⟨f - 1,by omega⟩
  have:ts=[]:=by simpa [yh] using ht
  subst this;rw [nil_append] at hp;refine ⟨p.next,?_,nx hp,fL hp⟩;rw [r7,ab zhc,xo hp hu,dN]
 | s::ps,f,acc,p,ts,hf,ha,hn,hp,ht=>by
  obtain ⟨f,rfl⟩:∃ g',f=g'+1:=⟨f - 1,by omega⟩;rw [yh] at ht;obtain ⟨v,r,rfl,I,ht⟩:=map_cons ht;obtain ⟨w,r,rfl,G,ht⟩:=map_cons ht;unfold dA at hn;rw [all_cons,aK] at hn;simp only [cons_append] at hp;have p1:=nx hp;have p2:=nx p1
  have hal:acc.length≠0:=fun h=>ha (ig h)
  rw [length_cons] at hf
  obtain ⟨q,h3,h4⟩:=Xl hu ps f (acc++[s]) p.next.next r av zf8 hn.2 p2 ht
  refine ⟨q,?_,h4.1,by rw [h4.2.1,(fL p1).1,(fL hp).1],by rw [h4.2.2,(fL p1).2,(fL hp).2]⟩;rw [r7,ah ⟨hp.code,Po hp I ar⟩,ab hal,xo hp I,tX p1,(tN G).2,BH p1 G hn.1,h3];simp
theorem ab4 {rest:List Tok} {u:Tok} (hu:kf u=kS [41]) (ps:List ae) (f:Nat) (p:RS) (ts:List Tok) (hf:ps.length < f) (hn:dA ps=true) (hp:On p (ts++u::rest)) (ht:ts.map kf=KA ps) :
  ∃ q,r7 f [] p=some (ps,q)/\cE p q (.ok rest):=by
 obtain ⟨f,rfl⟩:∃ g',f=g'+1:=⟨f - 1,by omega⟩
 match ps,hn,ht,hf with
 | [],_,ht,_ =>
  have:ts=[]:=by simpa [KA] using ht
  subst this;rw [nil_append] at hp;refine ⟨p.next,?_,nx hp,fL hp⟩;rw [r7,ab zhc,xo hp hu]
 | s::ps,hn,ht,hf =>
  rw [KA] at ht;obtain ⟨w,r,rfl,G,ht⟩:=map_cons ht;unfold dA at hn;rw [all_cons,aK] at hn;simp only [cons_append] at hp;have p2:=nx hp;rw [length_cons] at hf
  obtain ⟨q,h3,h4⟩:=Xl hu ps f ([]++[s]) p.next r av zf8 hn.2 p2 ht
  refine ⟨q,?_,h4.1,by rw [h4.2.1,(fL hp).1],by rw [h4.2.2,(fL hp).2]⟩;rw [r7,ah ⟨hp.code,Po hp G (fun h=>by cases h)⟩,ah (by rfl),tX hp,(tN G).2,BH hp G hn.1,h3];rfl
def fW (p:RS):Nat:=40 * p.l.length+100
theorem KB:∀ ps:List ae,ps.length<=(yh ps).length
 | []=>aS _
 | s::r=>by have:=KB r;rw [yh,length_cons,length_cons,length_cons];omega
theorem Y1 (ps:List ae):ps.length<=(KA ps).length:=by
 cases ps with
 | nil=>exact aS _
 | cons s r=>have:=KB r;rw [KA,length_cons,length_cons];omega
theorem On.len {p:RS} {ts:List Tok} (h:Go.Sp.On p ts):ts.length<=p.l.length:=by
 rw [<-h.rest,lE];omega
theorem aaG {f:Nat} {q:RS} {ts:List Tok} (hq:Go.Sp.On q ts) (hs:wz q.l) (hf:fW q<=f):∃ t q',iS f (.block 1) q=some (t,q')/\lO q q' t (block q.e 1 ts):=by
 obtain ⟨t,q',I,G⟩:=(is_ (p9 ts)).block 1 ts q hq hs zz;have:=On.len hq;exact ⟨t,q',I f (by unfold KI p9;unfold fW at hf;omega),G⟩
theorem adJ {f:Nat} {p:RS} {st:PS} {ts rest:List Tok} {x:Fn × List S} (hp:On p (ts++rest)) (hs:wz p.l) (hf:fW p<=f) (ht:ts.map kf=MR x) (I:bT x.1.name=true) (G:dA x.1.params=true) (h3:S.dT x.2=true) :
  (gw x.2 1=true->∃ q t,iW f p st=some (q,{ st with trees:=st.trees++[t],fns:=st.fns++[(x.1.name,x.1.params)] })/\er t=cR x.2/\cE p q (.ok rest)) /\
  (gw x.2 1=false->∃ q fo,iW f p st=some (q,fo)/\q.code≠0):=by
 obtain ⟨u,r,rfl,k1,ht⟩:=map_cons ht;obtain ⟨v,r,rfl,k2,ht⟩:=map_cons ht;obtain ⟨w,r,rfl,k3,ht⟩:=map_cons ht;obtain ⟨A,r,rfl,k4,ht⟩:=eu ht;obtain ⟨y,r,rfl,k5,ht⟩:=map_cons ht;simp only [cons_append,eF] at hp;have p1:=nx hp;have p2:=nx p1;have p3:=nx p2
 have hl:p.next.next.next.l=p.l:=by rw [(fL p2).1,(fL p1).1,(fL hp).1]
 have hA:x.1.params.length<=A.length:=by have:=Y1 x.1.params;rw [<-k4,bM] at this;exact this
 have cH:=On.len p3;simp only [aL] at cH;rw [hl] at cH
 have hfx:x.1.params.length < f:=by unfold fW at hf;omega
 obtain ⟨q,h4,h5⟩:=ab4 k5 x.1.params f p.next.next.next A hfx G p3 k4
 have rI:q.l=p.l:=h5.2.1.trans hl;obtain ⟨t,q',h6,h7⟩:=aaG (f:=f) h5.1 zgL zgz;obtain ⟨r1,r2⟩:=IQ (e:=q.e) (d:=1) (rest:=rest) h3 ht
 have hw:iW f p st=some (q',{ st with trees:=st.trees++[t],fns:=st.fns++[(x.1.name,x.1.params)] }):=by
  unfold iW;rw [ab (by rw [Po hp k1 ar];decide),ah (DK hp k1),BH p1 k2 I,xo p2 k3,h4];simp only;rw [ah h5.1.code,h6,tX p1,(tN k2).2]
 refine ⟨fun yf=>?_,fun yf=>?_⟩
 ·obtain ⟨t',j1,j2⟩:=r1 yf;rw [j2] at h7;obtain ⟨rfl,j3⟩:=h7;exact ⟨q',t,hw,j1,j3.1,j3.2.1.trans rI,j3.2.2.trans (h5.2.2.trans (by rw [(fL p2).2,(fL p1).2,(fL hp).2]))⟩
 ·obtain ⟨pos,j2⟩:=r2 yf;rw [j2] at h7;exact ⟨q',_,hw,cE.err h7⟩
theorem uC {aeK f:Nat} {p q:RS} {st fo:PS} {u:Tok} {r:List Tok} (hp:On p (u::r)) (h:iW f p st=some (q,fo)):qG (aeK+1) f p st=qG aeK f q fo:=by
 rw [qG,ah ⟨hp.code,adP hp⟩,h]
theorem Xo {f:Nat} {rest:List Tok}:∀ (gs:List ae) (p:RS) (st:PS) (ts:List Tok),On p (ts++rest)->ts.map kf=gs.flatMap RF->dA gs=true ->
  ∃ q,cE p q (.ok rest)/\∀ aeK,qG (aeK+gs.length) f p st=qG aeK f q { st with globals:=st.globals++gs }
 | [],p,st,ts,hp,ht,_=>by
  have:ts=[]:=by simpa using ht
  subst this;exact ⟨p,On.self hp,fun aeK=>by simp⟩
 | s::gs,p,st,ts,hp,ht,hn=>by
  rw [flatMap_cons] at ht;obtain ⟨A,B,rfl,I,G⟩:=eu ht;unfold dA at hn;rw [all_cons,aK] at hn;rw [eF] at hp;obtain ⟨q,h3,h4⟩:=adK (f:=f) (st:=st) hp I hn.1;obtain ⟨q',h5,h6⟩:=Xo gs q { st with globals:=st.globals++[s] } B h4.1 G hn.2;exact zcL
theorem Xm {f:Nat} {rest:List Tok}:∀ (as:List Ar) (p:RS) (st:PS) (ts:List Tok),On p (ts++rest)->ts.map kf=as.flatMap Mq->as.all rL=true ->
  ∃ q,cE p q (.ok rest)/\∀ aeK,qG (aeK+as.length) f p st=qG aeK f q { st with arrays:=st.arrays++as }
 | [],p,st,ts,hp,ht,_=>by
  have:ts=[]:=by simpa using ht
  subst this;exact ⟨p,On.self hp,fun aeK=>by simp⟩
 | s::gs,p,st,ts,hp,ht,hn=>by
  rw [flatMap_cons] at ht;obtain ⟨A,B,rfl,I,G⟩:=eu ht;rw [all_cons,aK] at hn;rw [eF] at hp
  have dF:bT s.name=true:=by have:=hn.1;unfold rL at this;simp only [aK] at this;exact this.1.1
  obtain ⟨q,h3,h4⟩:=adI (f:=f) (st:=st) hp I dF;obtain ⟨q',h5,h6⟩:=Xm gs q { st with arrays:=st.arrays++[s] } B h4.1 G hn.2;exact zcL
def xOk (x:Fn × List S):Prop:=bT x.1.name=true/\dA x.1.params=true/\S.dT x.2=true
theorem Xn {f:Nat}:∀ (xs:List (Fn × List S)) (p:RS) (st:PS) (ts:List Tok),On p ts->wz p.l->fW p<=f->ts.map kf=xs.flatMap MR->(∀ x∈xs,xOk x) ->
  ((xs.all fun x=>gw x.2 1)=true->∃ q l,(∀ aeK,xs.length < aeK->qG aeK f p st=some (q,{ st with trees:=st.trees++l,fns:=st.fns++xs.map fun x=>(x.1.name,x.1.params) }))/\q.code=0/\bf l=xs.map fun x=>cR x.2) /\
  ((xs.all fun x=>gw x.2 1)=false->∃ q fo,(∀ aeK,xs.length < aeK->qG aeK f p st=some (q,fo))/\q.code≠0)
 | [],p,st,ts,hp,_,_,ht,_=>by
  have:ts=[]:=by simpa using ht
  subst this;refine ⟨fun _=>⟨p,[],fun aeK hG=>?_,hp.code,by rw [bf];rfl⟩,fun h=>by cases h⟩;obtain ⟨aeK,rfl⟩:∃ g',aeK=g'+1:=⟨aeK - 1,by rw [length_nil] at hG;omega⟩;rw [qG,ab (fun hc=>aaP hp hc.2)];simp
 | x::xs,p,st,ts,hp,hs,hf,ht,hx=>by
  rw [flatMap_cons] at ht;obtain ⟨A,B,rfl,I,G⟩:=eu ht;obtain ⟨x1,x2,x3⟩:=hx x mem_cons_self;obtain ⟨k1,k2⟩:=adJ (st:=st) hp hs hf I x1 x2 x3
  have cj:∃ u r,A++B=u::r:=by obtain ⟨u,r,rfl,_,_⟩:=map_cons I;exact ⟨u,_,rfl⟩
  obtain ⟨u,r,hu⟩:=cj;rw [hu] at hp
  cases hb:gw x.2 1 with
  | false =>
   obtain ⟨q,fo,k3,k4⟩:=k2 hb;refine ⟨fun h=>(by rw [all_cons,hb] at h;cases h),fun _=>⟨q,fo,fun aeK hG=>?_,k4⟩⟩;obtain ⟨aeK,rfl⟩:∃ g',aeK=g'+1:=⟨aeK - 1,by rw [length_cons] at hG;omega⟩;rw [uC hp k3,Ns k4 zgQ]
  | true =>
   obtain ⟨q,t,k3,k4,k5⟩:=k1 hb;have rI:q.l=p.l:=k5.2.1;obtain ⟨j1,j2⟩:=Xn (f:=f) xs q { st with trees:=st.trees++[t],fns:=st.fns++[(x.1.name,x.1.params)] } B k5.1 zgL zgz G (fun y hy=>hx y (dK _ hy));rw [all_cons,hb,Bool.true_and];refine ⟨fun h=>?_,fun h=>?_⟩
   ·obtain ⟨q',l,j3,j4,j5⟩:=j1 h;refine ⟨q',t::l,fun aeK hG=>?_,j4,by rw [bf,k4,j5];rfl⟩;obtain ⟨aeK,rfl⟩:∃ g',aeK=g'+1:=⟨aeK - 1,by rw [length_cons] at hG;omega⟩;rw [uC hp k3,j3 aeK zgQ];simp
   ·obtain ⟨q',fo,j3,j4⟩:=j2 h;refine ⟨q',fo,fun aeK hG=>?_,j4⟩;obtain ⟨aeK,rfl⟩:∃ g',aeK=g'+1:=⟨aeK - 1,by rw [length_cons] at hG;omega⟩;rw [uC hp k3,j3 aeK zgQ]
theorem Tf (aeK:List ae) (As:List Ar) (xs:List (Fn × List S)) (I:dA aeK=true) (G:As.all rL=true) (h3:∀ x∈xs,xOk x) :
  ∃ ts,Tz (eB oQ (eB a1 (eB g1 [] aeK) As) xs) 0 ts (eB oQ (eB a1 (eB g1 [] aeK) As) xs).length /\
  (wz ts->∀ (e:Int) (g f:Nat),ts.length+1<=g->40 * ts.length+100<=f ->
   ((xs.all fun x=>gw x.2 1)=true->∃ q l,qG g f ⟨ts,0,e,0,0⟩ .empty=some (q,⟨l,aeK,As,xs.map fun x=>(x.1.name,x.1.params)⟩)/\q.code=0/\bf l=xs.map fun x=>cR x.2) /\
   ((xs.all fun x=>gw x.2 1)=false->∃ q fo,qG g f ⟨ts,0,e,0,0⟩ .empty=some (q,fo)/\q.code≠0)):=by
 have l1:=Cv (f:=g1) (k:=RF) aeK (fun s hs=>ach (jb.1 I s hs)) [] [] fB.nil;have l2:=Cv (f:=a1) (k:=Mq) As (fun s hs=>acf (jb.1 G s hs)) _ _ l1;have l3:=Cv (f:=oQ) (k:=MR) xs (fun x hx=>by obtain ⟨a,b,c⟩:=h3 x hx;exact acg a b c) _ _ l2;obtain ⟨ts,k1,k2⟩:=l3.all;refine ⟨ts,k2,fun hs e g f hg hf=>?_⟩;rw [nil_append] at k1;obtain ⟨A,C,rfl,k3,k4⟩:=eu k1;obtain ⟨A,B,rfl,k5,k6⟩:=eu k3;have Hl:On ⟨(A++B)++C,0,e,0,0⟩ (A++(B++C)):=⟨rfl,aS _,by simp,k2.kinds⟩;obtain ⟨q1,j1,j2⟩:=Xo (f:=f) aeK _ .empty A Hl k5 I;obtain ⟨q2,j3,j4⟩:=Xm (f:=f) As q1 _ B j1.1 k6 G;have rI:q2.l=(A++B)++C:=(j1.tr j3).2.1;obtain ⟨j5,j6⟩:=Xn (f:=f) xs q2 { ({ PS.empty with globals:=PS.empty.globals++aeK }:PS) with arrays:=PS.empty.arrays++As } C j3.1 zgL (by unfold fW;rw [rI];exact hf) k4 h3
 have c1:aeK.length<=A.length:=by
  have:=congrArg List.length k5;rw [bM] at this;rw [this];clear this k5 j1 j2 j3 j4 j5 j6 rI Hl hs k1 k2 k3 l1 l2 l3 hf hg I
  induction aeK with
  | nil=>exact aI _
  | cons s aeK ih=>rw [flatMap_cons,aL,length_cons];simp only [RF,length_cons,length_nil];omega
 have c2:As.length<=B.length:=by
  have:=congrArg List.length k6;rw [bM] at this;rw [this];clear this k6 j1 j2 j3 j4 j5 j6 rI Hl hs k1 k2 k3 l1 l2 l3 hf hg G
  induction As with
  | nil=>exact aI _
  | cons s aeK ih=>rw [flatMap_cons,aL,length_cons];simp only [Mq,length_cons,length_nil];omega
 have c3:xs.length<=C.length:=by
  have:=congrArg List.length k4;rw [bM] at this;rw [this];clear this k4 j1 j2 j3 j4 j5 j6 rI Hl hs k1 k2 k3 l1 l2 l3 hf hg h3
  induction xs with
  | nil=>exact aI _
  | cons s aeK ih=>rw [flatMap_cons,aL,length_cons];simp only [MR,length_cons];omega
 rw [aL,aL] at hg;have qy:∃ g',xs.length < g'/\g=g'+As.length+aeK.length:=⟨g - As.length - aeK.length,by omega,by omega⟩;obtain ⟨g',nw,rfl⟩:=qy;rw [j2,j4];refine ⟨fun h=>?_,fun h=>?_⟩
 ·obtain ⟨q,l,j7,j8,j9⟩:=j5 h;exact ⟨q,l,j7 g' nw,j8,j9⟩
 ·obtain ⟨q,fo,j7,j8⟩:=j6 h;exact ⟨q,fo,j7 g' nw,j8⟩
structure Fv (st:PS):Prop where
 globals:dA st.globals=true
 arrays:st.arrays.all rL=true
 fns:∀ x∈st.fns,bT x.1=true/\dA x.2=true
 trees:∀ t∈st.trees,BF t
 len:st.fns.length=st.trees.length
theorem Db {a b:List ae} (h:dA a=true) (k:dA b=true):dA (a++b)=true:=by
 unfold dA at *;rw [List.all_append,h,k];rfl
theorem Dc {s:ae} (h:bT s=true):dA [s]=true:=by
 unfold dA;rw [all_cons,h];rfl
theorem Sf.len {a b:List Tok} {n:Nat} (h:Sf a b n):b.length+n<=a.length:=by
 obtain ⟨p,rfl,h⟩:=h;rw [aL];omega
theorem Nq:∀ (f:Nat) (acc:List ae) (p:RS) (ts:List Tok),On p ts->vd ts->ts.length+1 < f->dA acc=true ->
  ∃ l q,r7 f acc p=some (l,q)/\((∃ r n,cE p q (.ok r)/\dA l=true/\Sf ts r n)\/q.code≠0)
 | 0,acc,p,ts,_,_,hf,_=>by omega
 | f+1,acc,p,ts,hp,ho,hf,hn=>by
  rw [r7]
  by_cases hc:p.code=0/\is p 0 [41]=false
  ·rw [ah hc]
   have mH:(∃ r,cE p (if acc.length=0 then p else want p [44]) (.ok r)/\Sf ts r 0)\/(if acc.length=0 then p else want p [44]).code≠0:=by
    by_cases ha:acc.length=0
    ·rw [ah ha];exact .inl ⟨ts,On.self hp,.nil _⟩
    ·rw [ab ha]
     rcases po hp (s:=[44]) ar with ⟨r,I,G⟩ | ⟨x,I,G⟩
     ·exact .inl ⟨r,G,(Sf.aR ar I).le (aS _)⟩
     ·exact .inr (cE.err G)
   generalize (if acc.length=0 then p else want p [44])=p' at *
   rcases mH with ⟨r,I,G⟩ | I
   ·rcases xd I.1 with ⟨r2,h3,h4⟩ | ⟨x,h3,h4⟩
    ·obtain ⟨k1,k2⟩:=Sf.name h3 (G.ok ho);have hlen:=(G.trans k1).len;obtain ⟨l,q,k3,k4⟩:=Nq f (acc++[(tok p' 0).s]) (bO p') r2 h4.1 ((G.trans k1).ok ho) av (Db hn (Dc k2));refine ⟨l,q,k3,?_⟩
     rcases k4 with ⟨r3,n,k5,k6,k7⟩ | k5
     ·exact .inl ⟨r3,_,(I.tr h4).tr k5,k6,(G.trans k1).trans k7⟩
     ·exact .inr k5
    ·exact ⟨_,_,Cu (cE.err h4) av,.inr (cE.err h4)⟩
   ·rw [S4 I];exact ⟨_,_,Cu I av,.inr I⟩
  ·rw [ab hc]
   rcases po hp (s:=[41]) ar with ⟨r,I,G⟩ | ⟨x,I,G⟩
   ·exact ⟨acc,_,rfl,.inl ⟨r,1,G,hn,Sf.aR ar I⟩⟩
   ·exact ⟨acc,_,rfl,.inr (cE.err G)⟩
theorem aaI {f:Nat} {p:RS} {st:PS} {u:Tok} {r0:List Tok} (hp:On p (u::r0)) (ho:vd (u::r0)) (hs:wz p.l) (hf:fW p<=f) (b6:Fv st) :
  ∃ q fo,iW f p st=some (q,fo)/\((∃ r n,cE p q (.ok r)/\Fv fo/\Sf (u::r0) r (n+1)/\aB fo.trees<=n+1+aB st.trees)\/q.code≠0):=by
 have p1:=nx hp;have kE:=Sf.one u r0;unfold iW
 by_cases I:is p 0 jU=true
 ·rw [ah I]
  rcases xd p1 with ⟨r1,a1,a2⟩ | ⟨x,a1,a2⟩
  ·obtain ⟨b1,b2⟩:=Sf.name a1 (kE.ok ho);have b3:=kE.trans b1;have a3:cE p (bO p.next) (.ok r1):=(On.next hp).tr a2
   by_cases G:(bO p.next).code=0/\is (bO p.next) 0 [91]=true
   ·rw [ah G]
    have h3:sign r1 0=[91]:=by
     have:=On.is a2.1 0 (s:=[91]) ar;rw [G.2] at this;simpa using this.symm
    obtain ⟨v,h4,_⟩:=xl ar h3;have b4:=b3.trans (Sf.sign ar h3);have p2:=a2.1;rw [h4] at p2
    have a4:cE p (bO p.next).next (.ok r1.tail):=a3.tr (On.next p2)
    have p3:=nx p2
    by_cases h5:(tok (bO p.next).next 0).kind=1
    ·rw [ah h5]
     cases hr:r1.tail with
     | nil =>
      rw [hr] at p3;have:=On.tok p3 0;rw [this] at h5;cases h5
     | cons w r3 =>
      rw [hr] at p3 a4 b4;have p4:=nx p3;have b5:=b4.trans (Sf.one w r3);have a5:=a4.tr (On.next p3);rw [tX p3] at h5;have hw:=(b4.ok ho w mem_cons_self).num h5
      rcases po p4 (s:=[93]) ar with ⟨r4,c1,c2⟩ | ⟨x,c1,c2⟩
      ·rcases po c2.1 (s:=[59]) ar with ⟨r5,d1,d2⟩ | ⟨x,d1,d2⟩
       ·refine ⟨_,_,rfl,.inl ⟨r5,0,(a5.tr c2).tr d2,⟨b6.globals,?_,b6.fns,b6.trees,b6.len⟩,((b5.trans (Sf.aR ar c1)).trans (Sf.aR ar d1)).le av,by simp only;omega⟩⟩;simp only;rw [List.all_append,b6.arrays,all_cons,List.all_nil,Bool.and_true,Bool.true_and];unfold rL;rw [tX p3,b2];simp only [aK,Bool.not_eq_true',decide_eq_false_iff_not];exact ⟨⟨trivial,by omega⟩,by omega⟩
       ·exact ⟨_,_,rfl,.inr (cE.err d2)⟩
      ·refine ⟨_,_,rfl,.inr ?_⟩;rw [iX (cE.err c2)];exact cE.err c2
    ·rw [ab h5];exact ⟨_,_,rfl,.inr (cE.err (On.nr p3))⟩
   ·rw [ab G]
    rcases po a2.1 (s:=[59]) ar with ⟨r4,c1,c2⟩ | ⟨x,c1,c2⟩
    ·exact ⟨_,_,rfl,.inl ⟨r4,0,a3.tr c2,⟨Db b6.globals (Dc b2),b6.arrays,b6.fns,b6.trees,b6.len⟩,(b3.trans (Sf.aR ar c1)).le av,by simp only;omega⟩⟩
    ·exact ⟨_,_,rfl,.inr (cE.err c2)⟩
  ·rw [ab (fun h=>cE.err a2 h.1),iX (cE.err a2)];exact ⟨_,_,rfl,.inr (cE.err a2)⟩
 ·rw [ab I]
  by_cases G:is p 0 ko=true
  ·rw [ah G]
   rcases xd p1 with ⟨r1,a1,a2⟩ | ⟨x,a1,a2⟩
   ·obtain ⟨b1,b2⟩:=Sf.name a1 (kE.ok ho);have b3:=kE.trans b1;have a3:cE p (bO p.next) (.ok r1):=(On.next hp).tr a2
    rcases po a2.1 (s:=[40]) ar with ⟨r2,c1,c2⟩ | ⟨x,c1,c2⟩
    ·have b4:=b3.trans (Sf.aR ar c1);have a4:=a3.tr c2;have hl:=On.len c2.1;have nz:(want (bO p.next) [40]).l=p.l:=a4.2.1;obtain ⟨l,q,k1,k2⟩:=Nq f [] _ r2 c2.1 (b4.ok ho) (by rw [nz] at hl;unfold fW at hf;omega) rfl;rw [k1];simp only
     rcases k2 with ⟨r3,n,k3,k4,k5⟩ | k3
     ·have a5:=a4.tr k3;have rI:q.l=p.l:=a5.2.1;rw [ah k3.1.code];obtain ⟨t,q',k6,k7⟩:=aaG (f:=f) k3.1 zgL zgz;rw [k6];simp only;have b5:=b4.trans k5
      cases hb:block q.e 1 r3 with
      | error x=>rw [hb] at k7;exact ⟨_,_,rfl,.inr (cE.err k7)⟩
      | ok y =>
       obtain ⟨t',r4⟩:=y;rw [hb] at k7;obtain ⟨rfl,k7⟩:=k7;obtain ⟨k8,k9⟩:=OI (b5.ok ho) hb;refine ⟨_,_,rfl,.inl ⟨r4,n+aQ t+2,a5.tr k7,⟨b6.globals,b6.arrays,?_,?_,?_⟩,(b5.trans k9).le av,?_⟩⟩
       ·intro x hx
        rcases mo hx with hx | hx
        ·exact b6.fns x hx
        ·rw [mem_singleton] at hx;subst hx;exact ⟨b2,k4⟩
       ·intro x hx
        rcases mo hx with hx | hx
        ·exact b6.trees x hx
        ·rw [mem_singleton] at hx;subst hx;exact k8
       ·simp only [aL,length_cons,length_nil];have:=b6.len;omega
       ·simp only [qu,aB];omega
     ·rw [ab k3];exact ⟨_,_,rfl,.inr k3⟩
    ·rw [Cu (cE.err c2) (by unfold fW at hf;omega)];simp only;rw [ab (cE.err c2)];exact ⟨_,_,rfl,.inr (cE.err c2)⟩
   ·rw [iX (cE.err a2),Cu (cE.err a2) (by unfold fW at hf;omega)];simp only;rw [ab (cE.err a2)];exact ⟨_,_,rfl,.inr (cE.err a2)⟩
  ·rw [ab G];exact ⟨_,_,rfl,.inr (cE.err (On.nr hp))⟩
theorem Nr {f:Nat}:∀ (aeK:Nat) (p:RS) (st:PS) (ts:List Tok),On p ts->vd ts->wz p.l->fW p<=f->Fv st->ts.length < aeK ->
  ∃ q fo,qG aeK f p st=some (q,fo)/\(q.code=0->Fv fo/\aB fo.trees<=ts.length+aB st.trees)
 | 0,p,st,ts,_,_,_,_,_,hG=>by omega
 | aeK+1,p,st,ts,hp,ho,hs,hf,b6,hG=>by
  cases ts with
  | nil =>
   rw [qG,ab (fun hc=>aaP hp hc.2)];exact ⟨p,st,rfl,fun _=>⟨b6,by simp⟩⟩
  | cons u r0 =>
   obtain ⟨q,fo,I,G⟩:=aaI hp ho hs hf b6;rw [uC hp I];rw [length_cons] at hG
   rcases G with ⟨r,n,h3,h4,h5,h6⟩ | h3
   ·have hl:=h5.len;rw [length_cons] at hl;have rI:q.l=p.l:=h3.2.1;obtain ⟨q',st2,k1,k2⟩:=Nr aeK q fo r h3.1 (h5.ok ho) zgL zgz h4 av;exact ⟨q',st2,k1,fun hc=>by obtain ⟨k3,k4⟩:=k2 hc;exact ⟨k3,by rw [length_cons];omega⟩⟩
   ·exact ⟨q,fo,Ns h3 av,fun hc=>absurd hc h3⟩
def sj (st:PS):List Fn:=st.fns.mapIdx fun i x=>⟨x.1,x.2,((aB (st.trees.take i):Nat):Int)⟩
def same (p:Src) (st:PS):Bool:=gV (fun x y=>x==y) p.globals st.globals&&(gV CP p.arrays st.arrays&&(gV u6 p.fns (sj st)&&gV nY p.nodes (eD 0 st.trees)))
structure Reads (x:ae) (ts:List Tok) (c z:Int) (q:RS) (st:PS):Prop where
 lex:sC x (x.length+1) 0 []=some (ts,c,z)
 len:ts.length<=x.length
 read:qG (ts.length+1) (40 * ts.length+100) ⟨ts,0,(x.length:Int),0,0⟩ .empty=some (q,st)
 ok:q.code=0->Fv st/\aB st.trees<=ts.length
theorem reads (x:ae):∃ ts c z q st,Reads x ts c z q st:=by
 obtain ⟨ts,c,z,I,G,h3,h4⟩:=vt x (x.length+1) 0 [] (aS _) av (fun t h=>by simp at h) .nil (fun t h=>by simp at h) (aI _);have Hl:On ⟨ts,0,(x.length:Int),0,0⟩ ts:=⟨rfl,aS _,rfl,fun t ht=>(G t ht).kinds⟩;obtain ⟨q,st,h5,h6⟩:=Nr (f:=40 * ts.length+100) (ts.length+1) _ .empty ts Hl G h3 (aI _) ⟨rfl,rfl,fun x h=>zgg,fun x h=>zgg,rfl⟩ av;exact ⟨ts,c,z,q,st,I,h4,h5,fun h=>by obtain ⟨a,b⟩:=h6 h;exact ⟨a,by simpa [PS.empty,aB] using b⟩⟩
structure Forms (l:List T) (ls:List (List S)):Prop where
 len:ls.length=l.length
 at_:∀ (i:Nat) t b,l[i]?=some t->ls[i]?=some b->S.dT b=true/\er t=cR b
theorem JB:∀ (l:List T),(∀ t∈l,BF t)->∃ ls,Forms l ls
 | [],_=>⟨[],rfl,fun i t b h=>by simp at h⟩
 | t::l,h=>by
  obtain ⟨b,I,G⟩:=h t mem_cons_self
  obtain ⟨ls,h3⟩:=JB l fun u hu=>h u (dK _ hu)
  refine ⟨b::ls,by simp [h3.len],fun i t' b' k1 k2=>?_⟩
  cases i with
  | zero=>cases k1;cases k2;exact ⟨I,G⟩
  | succ i=>exact h3.at_ i t' b' (by simpa using k1) (by simpa using k2)
theorem ij.mem {Q:Fn->T->Prop}:∀ {fns:List Fn} {a:Nat} {l:List T},ij Q fns a l->(∀ f∈fns,∃ t∈l,Q f t)/\(∀ t∈l,∃ f∈fns,Q f t)
 | [],_,[],_=>⟨fun f h=>zgg,fun f h=>zgg⟩
 | f::r,a,t::l,h=>by
  rw [ij] at h;obtain ⟨k1,k2⟩:=ij.mem h.2.2;refine ⟨fun g hg=>?_,fun u hu=>?_⟩
  ·rcases fh hg with rfl | hg
   ·exact ⟨t,mem_cons_self,h.2.1⟩
   ·obtain ⟨u,a,b⟩:=k1 g hg;exact ⟨u,dK _ a,b⟩
  ·rcases fh hu with rfl | hu
   ·exact ⟨f,mem_cons_self,h.2.1⟩
   ·obtain ⟨g,a,b⟩:=k2 u hu;exact ⟨g,dK _ a,b⟩
 | [],_,t::l,h=>by cases h
 | f::r,_,[],h=>by cases h
theorem jj.OX {p:Src} {l:List T} (h:jj p l):∃ ls,Forms l ls:=by
 refine JB l fun t ht=>?_
 obtain ⟨f,_,I⟩:=(ij.mem h.fns).2 t ht;exact toB I.all I.kind
theorem jj.at_ {p:Src} {l:List T} (h:jj p l):pF l:=by
 have:∀ l:List T,(∀ t∈l,eo t=true)->pF l:=by
  intro l
  induction l with
  | nil=>intro _;trivial
  | cons t l ih=>intro h;rw [pF];exact ⟨QA t (h t mem_cons_self),ih fun u hu=>h u (dK _ hu)⟩
 refine this l fun t ht=>?_
 obtain ⟨f,_,I⟩:=(ij.mem h.fns).2 t ht;exact I.all
theorem jj.AB {p:Src} {l:List T} (h:jj p l):jX p.nodes p.fns 0 []=some (l,p.nodes.length):=by
 rw [Mx p.fns 0 [] l h.st h.fns h.at_,h.len];simp
theorem jj.k {p:Src} {l:List T} (h:jj p l):l.all j0=true:=by
 rw [jb];intro t ht;obtain ⟨f,_,I⟩:=(ij.mem h.fns).2 t ht;exact Wv t I.all
theorem Ry {l:List T} {ls:List (List S)} (h:Forms l ls):bf l=ls.map cR:=by
 rw [wb];apply List.ext_getElem?;intro i;rw [bp,bp];have hl:=h.len
 cases I:l[i]? with
 | none =>
  rw [List.getElem?_eq_none_iff] at I;rw [List.getElem?_eq_none_iff.2 av];rfl
 | some t =>
  have hi:=(bB I).1
  have G:ls[i]?=some (ls[i]'av):=by simp [hl,hi]
  rw [G];exact congrArg some (h.at_ i t _ I G).2
theorem zip_fst {α β:Type}:∀ (a:List α) (b:List β),a.length=b.length->(a.zip b).map Prod.fst=a
 | [],[],_=>rfl
 | x::a,y::b,h=>by rw [zip_cons_cons,List.map_cons,zip_fst a b zgc]
 | [],y::b,h=>by simp at h
 | x::a,[],h=>by simp at h
theorem GD {α β:Type}:∀ (a:List α) (b:List β),a.length=b.length->(a.zip b).map Prod.snd=b
 | [],[],_=>rfl
 | x::a,y::b,h=>by rw [zip_cons_cons,List.map_cons,GD a b zgc]
 | [],y::b,h=>by simp at h
 | x::a,[],h=>by simp at h
theorem BV (l:List T) (i:Nat):aB (l.take i)=aB ((bf l).take i):=by
 rw [wb,<-List.map_take,<-wb,zn]
theorem abb {p:Src} {l:List T} {l':List T} {ls:List (List S)} (h:jj p l) (he:bf l'=bf l):same p ⟨l',p.globals,p.arrays,p.fns.map fun x=>(x.name,x.params)⟩=true:=by
 unfold same;simp only [aK];refine ⟨uz (fun x=>by simp) _,uz (fun x=>by simp [CP]) _,?_,?_⟩
 ·have:sj ⟨l',p.globals,p.arrays,p.fns.map fun x=>(x.name,x.params)⟩=p.fns:=by
   unfold sj;apply List.ext_getElem?;intro i;simp only [List.getElem?_mapIdx,bp]
   cases hf:p.fns[i]? with
   | none=>rfl
   | some f =>
    have hlen:=ij.len h.fns;have hi:=(bB hf).1
    have ht:l[i]?=some (l[i]'av):=by simp [<-hlen,hi]
    have hb:=(ij.at_ h.fns i f _ hf ht).1;rw [dJ,BV,<-he,<-BV] at hb;simp only [Option.map_some];rw [<-hb]
  rw [this];refine uz (fun x=>?_) _;simp [u6,uz]
 ·rw [ey.all h.st h.len];exact FQ _ _ 0 he.symm
theorem aaK {p:Src} {l:List T} {ls:List (List S)} (h:jj p l) (hf:Forms l ls):qz ed iG p l=eB oQ (eB a1 (eB g1 [] p.globals) p.arrays) (p.fns.zip ls):=by
 unfold qz
 refine QM _ _ _ _ hf.len fun i t b I G=>?_
 obtain ⟨h3,h4⟩:=hf.at_ i t b I G;rw [<-QG,h4];exact yx b h3 0
theorem P7 {p:Src} {l:List T} {ls:List (List S)} (h:jj p l) (hf:Forms l ls) {ts:List Tok} {c z:Int} {q:RS} {st:PS} (hr:Reads (qz ed iG p l) ts c z q st) :
  c=0/\((ls.all fun b=>gw b 1)=true->q.code=0/\aB st.trees<=800/\same p st=true)/\((ls.all fun b=>gw b 1)=false->q.code≠0):=by
 have hx:=aaK h hf;have hlen:=ij.len h.fns;have nS:=hf.len
 have sX:∀ x∈p.fns.zip ls,xOk x:=by
  intro x hx;obtain ⟨f,b⟩:=x;obtain ⟨i,hi⟩:=List.getElem?_of_mem hx;rw [List.getElem?_zip_eq_some] at hi;have tJ:=(bB hi.2).1
  have ht:l[i]?=some (l[i]'av):=by simp [<-nS,tJ]
  have I:=(ij.at_ h.fns i f _ hi.1 ht).2;exact ⟨I.name,I.params,(hf.at_ i _ b ht hi.2).1⟩
 obtain ⟨us,I,G⟩:=Tf p.globals p.arrays (p.fns.zip ls) h.globals h.arrays sX;rw [<-hx] at I;have h3:=YR I rfl ((qz ed iG p l).length+1) [] av;rw [nil_append,hr.lex] at h3;simp only [Option.some.injEq,Prod.mk.injEq] at h3;obtain ⟨rfl,rfl,rfl⟩:=h3
 have adE:wz ts:=by
  obtain ⟨lz,c',z',k1,k2,k3,k4⟩:=vt (qz ed iG p l) ((qz ed iG p l).length+1) 0 [] (aS _) av (fun t h=>by simp at h) .nil (fun t h=>by simp at h) (aI _);rw [hr.lex] at k1;cases k1;exact k3
 obtain ⟨h4,h5⟩:=G adE ((qz ed iG p l).length:Int) (ts.length+1) (40 * ts.length+100) (aI _) (aI _)
 have bj:((p.fns.zip ls).all fun x=>gw x.2 1)=ls.all fun b=>gw b 1:=by
  have:ls=(p.fns.zip ls).map Prod.snd:=(GD _ _ av).symm
  conv=>rhs;rw [this]
  rw [List.all_map];rfl
 rw [bj] at h4 h5;refine ⟨rfl,fun yf=>?_,fun yf=>?_⟩
 ·obtain ⟨q',l',k1,k2,k3⟩:=h4 yf;rw [hr.read] at k1;simp only [Option.some.injEq,Prod.mk.injEq] at k1;obtain ⟨rfl,rfl⟩:=k1
  have e1:((p.fns.zip ls).map fun x=>cR x.2)=ls.map cR:=by
   have:ls=(p.fns.zip ls).map Prod.snd:=(GD _ _ av).symm
   conv=>rhs;rw [this]
   rw [map_map];rfl
  have e2:((p.fns.zip ls).map fun x=>(x.1.name,x.1.params))=p.fns.map fun x=>(x.name,x.params):=by
   have:p.fns=(p.fns.zip ls).map Prod.fst:=(zip_fst _ _ av).symm
   conv=>rhs;rw [this]
   rw [map_map];rfl
  have he:bf l'=bf l:=by rw [k3,e1,Ry hf]
  refine ⟨k2,?_,?_⟩
  ·simp only;rw [<-zn,he,zn,h.len];exact h.few
  ·rw [e2];exact abb (ls:=ls) h he
 ·obtain ⟨q',fo,k1,k2⟩:=h5 yf;rw [hr.read] at k1;simp only [Option.some.injEq,Prod.mk.injEq] at k1;obtain ⟨rfl,rfl⟩:=k1;exact k2
theorem MM {α:Type} {p:α->α->Bool} {a b:List α} (h:gV p a b=true) {x:α} (hx:x∈a):∃ y∈b,p x y=true:=by
 obtain ⟨i,hi⟩:=List.getElem?_of_mem hx;have hl:=Ce h;have au:=(bB hi).1
 have hb:b[i]?=some (b[i]'av):=by simp [<-hl,au]
 exact ⟨_,bo hb,I6 hi hb h⟩
theorem PW {p:Src} {l:List T} (hn:p.nodes.length<=800) (hb:jX p.nodes p.fns 0 []=some (l,p.nodes.length)) {st:PS} (fA:Fv st) (hs:same p st=true):jj p l:=by
 obtain ⟨l',I,G,h3,h4,h5⟩:=FG _ _ _ _ _ hb;rw [nil_append] at I;subst I;unfold same at hs;simp only [aK] at hs;obtain ⟨s1,s2,s3,s4⟩:=hs
 have hz:aB l=p.nodes.length:=by omega
 have aay:=ey.all G hz;rw [aay] at s4
 have hlen:l.length=st.trees.length:=by
  have a1:=ij.len h3;have a2:=Ce s3;unfold sj at a2;rw [List.length_mapIdx] at a2;have:=fA.len;omega
 have he:=Zg hlen s4
 have jZ:∀ f∈p.fns,bT f.name=true/\dA f.params=true:=by
  intro f hf;obtain ⟨g,hg,hp⟩:=MM s3 hf;unfold sj at hg;obtain ⟨i,hi⟩:=List.getElem?_of_mem hg;rw [List.getElem?_mapIdx] at hi
  cases hx:st.fns[i]? with
  | none=>rw [hx] at hi;cases hi
  | some x =>
   rw [hx] at hi;cases hi;simp only [u6,aK,beq_iff_eq] at hp;obtain ⟨⟨k1,k2⟩,_⟩:=hp;obtain ⟨k3,k4⟩:=fA.fns x (bo hx);rw [k1,Cd k2];exact ⟨k3,k4⟩
 have htr:∀ t∈l,t.n.kind=14/\eo t=true:=by
  intro t ht
  have h6:er t∈bf l:=by rw [wb];exact List.mem_map_of_mem ht
  rw [he,wb] at h6;obtain ⟨u,hu,h7⟩:=vb.1 h6;obtain ⟨b,k1,k2⟩:=fA.trees u hu;rw [h7] at k2
  have AJ:AU t:=by
   have:∀ l:List T,pF l->t∈l->AU t:=by
    intro l
    induction l with
    | nil=>intro _ h;cases h
    | cons v l ih =>
     intro h hm;rw [pF] at h
     rcases fh hm with rfl | hm
     ·exact h.1
     ·exact ih h.2 hm
   exact this l h5 ht
  refine ⟨?_,QB t (by rw [k2];exact S.yy b k1) AJ⟩;have:=congrArg (fun x=>x.n.kind) k2;simp only [A3] at this;exact this
 refine ⟨?_,?_,G,ij.mono h3 fun f t hf ht _=>⟨(jZ f hf).1,(jZ f hf).2,(htr t ht).1,(htr t ht).2⟩,hz,hn⟩
 ·rw [Cd s1];exact fA.globals
 ·rw [jb];intro a ha;obtain ⟨b,hb,hp⟩:=MM s2 ha;have h6:=jb.1 fA.arrays b hb;simp only [CP,aK,beq_iff_eq] at hp;unfold rL at h6 |-;rw [hp.1,hp.2];exact h6
def cD {α:Type} (f:α->Nat):List α->Nat
 | []=>0
 | x::l=>f x+cD f l
theorem uO {α:Type} (f:α->Nat) (a b:List α):cD f (a++b)=cD f a+cD f b:=by
 induction a with
 | nil=>simp [cD]
 | cons x a ih=>simp only [cons_append,cD,ih];omega
theorem Zn {α:Type} {f g:α->Nat} {l:List α} (h:∀ x∈l,f x<=g x):cD f l<=cD g l:=by
 induction l with
 | nil=>exact aI _
 | cons x l ih =>
  have I:=h x mem_cons_self
  have G:=ih fun y hy=>h y (dK _ hy)
  simp only [cD];omega
theorem uQ {α:Type} {f:α->Nat} {l:List α} {x:α} (h:x∈l):f x<=cD f l:=by
 induction l with
 | nil=>cases h
 | cons y l ih =>
  rw [cD]
  rcases fh h with rfl | h
  ·omega
  ·have:=ih h;omega
theorem uP {α:Type} {f g:α->Nat} {k:Nat} {l:List α} (h:∀ x∈l,f x<=k * g x):cD f l<=k * cD g l:=by
 induction l with
 | nil=>exact aS _
 | cons x l ih =>
  have I:=h x mem_cons_self
  have G:=ih fun y hy=>h y (dK _ hy)
  simp only [cD,Nat.mul_add];omega
theorem xm {α:Type} (f:α->Nat) (l:List α) (h:∀ x∈l,1<=f x):l.length<=cD f l:=by
 induction l with
 | nil=>exact aS _
 | cons x l ih =>
  have I:=h x mem_cons_self
  have G:=ih fun y hy=>h y (dK _ hy)
  rw [cD,length_cons];omega
theorem K9 {α β:Type} (f:α->Nat) (g:β->Nat):∀ (a:List α) (b:List β),cD (fun x:α × β=>f x.1+g x.2) (a.zip b)<=cD f a+cD g b
 | [],b=>by simp [cD]
 | x::a,[]=>by simp [cD]
 | x::a,y::b=>by
  have:=K9 f g a b;simp only [zip_cons_cons,cD] at *;omega
theorem zC {α:Type} (f:α->ae):∀ (l:List α) (acc:ae),(eB f acc l).length=acc.length+cD (fun x=>(f x).length) l
 | [],acc=>by simp [eB,cD]
 | x::l,acc=>by rw [eB,zC f l,aL,cD];omega
def vV (n:Nd):Nat:=n.s.length+60
mutual
theorem abw:∀ (t:T) (a:Nat),nE t=cD vV (jJ a t)
 | .mk n l,a=>by rw [nE,jJ,cD,CJ l (a+1),vV]
theorem CJ:∀ (l:List T) (a:Nat),jG l=cD vV (eD a l)
 | [],a=>rfl
 | t::r,a=>by rw [jG,eD,uO,abw t a,CJ r (a+aQ t)]
end
def wi (l:List T) (i:Nat):Nat:=match l[i]? with | some t=>nE t | none=>0
theorem adZ (l:List T):wi l 0+wi l 1+wi l 2<=jG l:=by
 match l with
 | []=>simp [wi]
 | [a]=>simp only [wi,jG];simp
 | [a,b]=>simp only [wi,jG];simp
 | a::b::c::r=>simp only [wi,jG];simp;omega
theorem MW {l:List T} {f:T->ae} (h:∀ t∈l,(f t).length<=nE t) (i:Nat):((l.map f).getD i []).length<=wi l i:=by
 rw [List.getD_eq_getElem?_getD,bp];unfold wi
 cases hi:l[i]? with
 | none=>simp
 | some t=>exact h t (bo hi)
theorem N8 {l:List T} {t:T} (h:t∈l):aQ t<=aB l:=by
 induction l with
 | nil=>cases h
 | cons a l ih =>
  rw [aB]
  rcases fh h with rfl | h
  ·omega
  ·have:=ih h;omega
theorem N7 {f:T->ae}:∀ {l:List T},(∀ t∈l,(f t).length+4<=nE t)->nH (l.map f)<=jG l
 | [],_=>aS _
 | t::l,h=>by
  have I:=h t mem_cons_self
  have G:=N7 (l:=l) fun y hy=>h y (dK _ hy)
  rw [List.map_cons,nH,jG];omega
theorem abh:∀ (N:Nat) (t:T),aQ t<=N->uJ t->∀ d,(nh ed iG d t).length+4<=nE t/\(qC ed iG d t).length<=nE t:=by
 intro N
 induction N with
 | zero=>intro t h;exact zcF
 | succ N ih =>
  intro t hN hn d;have dj:=fH t;rw [uK] at hn
  have hk:∀ a∈t.kids,∀ d,(nh ed iG d a).length+4<=nE a/\(qC ed iG d a).length<=nE a:=fun a ha d=>ih a (by have:=N8 ha;omega) (mI hn.2 ha) d
  have hx:=MW (l:=t.kids) (f:=ed) (fun a ha=>by have:=zp (aQ a) a (aI _) (mI hn.2 ha);omega);have hb:=MW (l:=t.kids) (f:=qC ed iG d) (fun a ha=>(hk a ha d).2);have h3:=adZ t.kids;have hw:=sf t;have gT:=zp (aQ t) t (aI _) ((uK t).2 hn);have x0:=hx 0;have x1:=hx 1;have b1:=hb 1;have b2:=hb 2;constructor
  ·rw [Tu,Mw];unfold AP;split
   ·exact zad
   split
   ·exact zad
   split
   ·exact zad
   split
   ·split
    ·exact zad
    ·exact zad
   split
   ·exact zad
   split
   ·exact zad
   split
   ·exact zad
   ·omega
  ·rw [QF,N5]
   have:=N7 (f:=nh ed iG (d+1)) (l:=t.kids) fun a ha=>(hk a ha (d+1)).1
   have e:∀ l:List ae,(iG l d).length=3+nH l:=fun l=>by
    unfold iG;rw [aL,wF];exact zeA
   rw [e];omega
def wS (l:List ae):Nat:=cD (fun s=>s.length+1) l
def b7 (p:Src):Nat:=wS p.globals+cD (fun a:Ar=>a.name.length+1) p.arrays+cD (fun f:Fn=>f.name.length+wS f.params+1) p.fns+cD (fun n:Nd=>n.s.length+n.kids.length+1) p.nodes
structure ma (p:Src):Prop where
 arrays:∀ a∈p.arrays,-9223372036854775808<=a.size/\a.size<=9223372036854775807
 nodes:∀ n∈p.nodes,-9223372036854775808<=n.n/\n.n<=9223372036854775807
mutual
theorem ek.num {nodes:List Nd} (h:∀ n∈nodes,-9223372036854775808<=n.n/\n.n<=9223372036854775807):∀ (t:T) (a:Nat),ek nodes a t->uJ t
 | .mk n l,a,hs=>by
  rw [ek] at hs;rw [uJ];exact ⟨h n (bo hs.1),ey.num h l _ hs.2.2⟩
theorem ey.num {nodes:List Nd} (h:∀ n∈nodes,-9223372036854775808<=n.n/\n.n<=9223372036854775807):∀ (l:List T) (a:Nat),ey nodes a l->u5 l
 | [],a,_=>trivial
 | t::r,a,hs=>by
  rw [ey] at hs;rw [u5];exact ⟨ek.num h t a hs.1,ey.num h r _ hs.2⟩
end
theorem V7 (l:List ae):(l.map fun y=>y.length+2).sum=cD (fun s=>s.length+2) l:=by
 induction l with
 | nil=>rfl
 | cons s l ih=>rw [List.map_cons,sum_cons,ih,cD]
theorem Lx (l:List T):jG l=cD nE l:=by
 induction l with
 | nil=>rfl
 | cons t l ih=>rw [jG,cD,ih]
theorem YJ {p:Src} {l:List T} (hn:ma p) (hs:ey p.nodes 0 l) (hz:aB l=p.nodes.length):(qz ed iG p l).length<=100 * b7 p:=by
 have kT:=ey.num hn.nodes l 0 hs
 have e1:cD (fun s=>(g1 s).length) p.globals<=100 * wS p.globals:=uP fun s _=>by simp only [g1,aL,length_cons,length_nil];omega
 have e2:cD (fun a=>(a1 a).length) p.arrays<=100 * cD (fun a:Ar=>a.name.length+1) p.arrays:=uP fun a ha=>by
  have:=BB (hn.arrays a ha);simp only [a1,aL,length_cons,length_nil];omega
 have e3:cD (fun x=>(ef ed iG x).length) (p.fns.zip l)<=cD (fun x:Fn × T=>(fun f:Fn=>100 * (f.name.length+wS f.params+1)) x.1+nE x.2) (p.fns.zip l):=Zn fun x hx=>by
  have I:=(abh (aQ x.2) x.2 (aI _) (mI kT (List.of_mem_zip hx).2) 0).2;have G:=DL x.1.params;rw [V7] at G
  have h3:cD (fun s=>s.length+2) x.1.params<=2 * wS x.1.params:=uP fun s _=>by omega
  simp only [ef,aL,length_cons,length_nil];omega
 have e4:=K9 (fun f:Fn=>100 * (f.name.length+wS f.params+1)) nE p.fns l
 have e5:cD (fun f:Fn=>100 * (f.name.length+wS f.params+1)) p.fns<=100 * cD (fun f:Fn=>f.name.length+wS f.params+1) p.fns:=uP fun f _=>aI _
 have e6:cD vV p.nodes<=100 * cD (fun n:Nd=>n.s.length+n.kids.length+1) p.nodes:=uP fun n _=>by unfold vV;omega
 have e7:cD nE l=cD vV p.nodes:=by rw [<-Lx,CJ l 0,<-ey.all hs hz]
 unfold qz b7;rw [zC,zC,zC];simp only [length_nil];have e8:=jV e3 e4;generalize cD (fun x=>(ef ed iG x).length) (p.fns.zip l)=v3 at *;generalize cD (fun s=>(g1 s).length) p.globals=v1 at *;generalize cD (fun a=>(a1 a).length) p.arrays=v2 at *;omega
theorem Lm {p:Src} {l:List T} (hs:ey p.nodes 0 l) (hz:aB l=p.nodes.length):∀ t∈l,nE t<=100 * b7 p/\aQ t<=b7 p:=fun t ht=>by
 have e6:cD vV p.nodes<=100 * cD (fun n:Nd=>n.s.length+n.kids.length+1) p.nodes:=uP fun n _=>by unfold vV;omega
 have e7:cD nE l=cD vV p.nodes:=by rw [<-Lx,CJ l 0,<-ey.all hs hz]
 have e8:=uQ (f:=nE) ht;have e9:=N8 ht
 have e10:=xm (fun n:Nd=>n.s.length+n.kids.length+1) p.nodes fun n _=>by omega
 unfold b7;omega
theorem TL (l:List ae):l.length<=wS l:=xm _ l fun s _=>by omega
theorem TM {l:List ae} {s:ae} (h:s∈l):s.length+1<=wS l:=uQ (f:=fun s:ae=>s.length+1) h
structure Small (p:Src) (n:Nat):Prop where
 globals:p.globals.length<=n/\∀ s∈p.globals,s.length<=n
 arrays:p.arrays.length<=n/\∀ a∈p.arrays,a.name.length<=n
 fns:p.fns.length<=n/\∀ f∈p.fns,f.name.length<=n/\f.params.length<=n/\∀ s∈f.params,s.length<=n
 nodes:p.nodes.length<=n/\∀ x∈p.nodes,x.s.length<=n/\x.kids.length<=n
theorem dU (p:Src):Small p (b7 p):=by
 have a1:=TL p.globals
 have a2:=xm (fun a:Ar=>a.name.length+1) p.arrays fun a _=>by omega
 have a3:=xm (fun f:Fn=>f.name.length+wS f.params+1) p.fns fun a _=>by omega
 have a4:=xm (fun n:Nd=>n.s.length+n.kids.length+1) p.nodes fun a _=>by omega
 unfold b7;refine ⟨⟨by omega,fun s hs=>?_⟩,⟨by omega,fun a ha=>?_⟩,⟨by omega,fun f hf=>?_⟩,⟨by omega,fun n hn=>?_⟩⟩
 ·have:=TM hs;omega
 ·have:=uQ (f:=fun a:Ar=>a.name.length+1) ha;omega
 ·have:=uQ (f:=fun f:Fn=>f.name.length+wS f.params+1) hf;refine ⟨by omega,by have:=TL f.params;omega,fun s hs=>by have:=TM hs;omega⟩
 ·have:=uQ (f:=fun n:Nd=>n.s.length+n.kids.length+1) hn;exact ⟨by omega,by omega⟩
structure Dk (st:PS) (n:Nat):Prop where
 globals:st.globals.length<=n
 arrays:st.arrays.length<=n
 fns:st.fns.length<=n
 params:∀ x∈st.fns,x.2.length<=n
theorem Sk:∀ (f:Nat) (acc:List ae) (p:RS) (l:List ae) (q:RS),r7 f acc p=some (l,q)->l.length<=acc.length+f
 | 0,_,_,_,_,h=>by cases h
 | f+1,acc,p,l,q,h=>by
  rw [r7] at h;split at h
  ·have:=Sk f _ _ l q h;rw [aL,length_cons,length_nil] at this;omega
  ·cases h;omega
theorem Dk.up {st:PS} {n:Nat} (h:Dk st n):Dk st (n+1):=by
 obtain ⟨a,b,c,d⟩:=h;exact zeE
theorem ab6 {f n:Nat} {p q:RS} {st fo:PS} (hf:f<=n) (h:iW f p st=some (q,fo)) (hs:Dk st n):Dk fo (n+1):=by
 have key:=hs.up;obtain ⟨a,b,c,d⟩:=hs;unfold iW at h;split at h
 ·split at h
  ·split at h
   ·cases h;exact zdH
   ·cases h;exact key
  ·cases h;exact zdH
 ·split at h
  ·cases hm:r7 f [] (want (bO p.next) [40]) with
   | none=>rw [hm] at h;cases h
   | some r =>
    obtain ⟨l,q1⟩:=r;rw [hm] at h;simp only at h;have hl:=Sk _ _ _ _ _ hm;split at h
    ·split at h
     ·cases h
     ·cases h;refine ⟨by simp;omega,by simp;omega,by simp;omega,fun x hx=>?_⟩
      rcases mo hx with hx | hx
      ·have:=d x hx;omega
      ·rw [mem_singleton] at hx;subst hx;simp at hl |-;omega
    ·cases h;exact key
  ·cases h;exact key
theorem Sm {f:Nat}:∀ (aeK n:Nat) (p q:RS) (st fo:PS),f<=n->qG aeK f p st=some (q,fo)->Dk st n->Dk fo (n+aeK)
 | 0,n,p,q,st,fo,_,h,_=>by cases h
 | aeK+1,n,p,q,st,fo,hf,h,hs=>by
  rw [qG] at h;split at h
  ·cases hw:iW f p st with
   | none=>rw [hw] at h;cases h
   | some r =>
    obtain ⟨q1,s1⟩:=r;rw [hw] at h;simp only at h;have:=Sm aeK (n+1) q1 q s1 fo av h (ab6 hf hw hs);rw [show n+(aeK+1)=n+1+aeK by omega];exact this
  ·cases h;obtain ⟨a,b,c,d⟩:=hs;exact zeE
mutual
theorem UN:∀ (t:T) (a:Nat),∀ n∈jJ a t,n.kids.length<=aQ t
 | .mk m l,a,n,h=>by
  rw [jJ] at h;rw [aQ]
  rcases fh h with rfl | h
  ·simp only [dy];have:=eI l;omega
  ·have:=Du l (a+1) n h;omega
theorem Du:∀ (l:List T) (a:Nat),∀ n∈eD a l,n.kids.length<=aB l
 | [],a,n,h=>by rw [eD] at h;cases h
 | t::r,a,n,h=>by
  rw [eD] at h;rw [aB]
  rcases mo h with h | h
  ·have:=UN t a n h;omega
  ·have:=Du r _ n h;omega
end
end Go.Im
namespace Go.Sp
open Go.Xp
structure Ix (p:Src) (ls:List (List S)):Prop where
 len:ls.length=p.fns.length
 at_:∀ (i:Nat) f l,p.fns[i]?=some f->ls[i]?=some l->0<=f.body/\S.dT l=true/\wt (cR l)<=1000000000/\∃ t,sub p.nodes (fN p.nodes) f.body.toNat=some t/\er t=cR l
theorem Y0 (a:E) (ho:a.ok=true):(a.bK).length+4<=wt a.tree:=(E.len a ho).1
theorem X5 {l:List S} (ho:S.dT l=true) (hw:wt (cR l)<=1000000000) :
  ∃ ts t q f,Go.Sp.iU (ik E.bK l)=some ts/\(ik E.bK l).length<=1000000000/\ts.length<=1000000000/\1+f<=1099511627776/\mS f (.block 1) ⟨ts,0,(ik E.bK l).length,0,0⟩=some (t,q)/\q.l=ts/\((q.code=0/\q.i=ts.length/\gw l 1=true)\/(q.code≠0/\gw l 1=false)):=by
 have hlen:=v7 E.bK Y0 ho;generalize hx:ik E.bK l=x at *;obtain ⟨ts,I,G⟩:=(NF ho).all;rw [hx] at G;have h3:=G.len;have Hl:On ⟨ts,0,x.length,0,0⟩ ts:=⟨rfl,aS _,rfl,G.kinds⟩;have cj:rs (x.length:Int) (p9 ts) (.block 1) ts≠.error bx:=zz;obtain ⟨t,q,h4,h5⟩:=(js (p9 ts)).block 1 ts _ Hl cj;have Sc:=IQ (e:=(x.length:Int)) (d:=1) (rest:=[]) ho I;rw [dN] at Sc
 change lO _ q t (block (x.length:Int) 1 ts) at h5
 refine ⟨ts,t,q,KF (p9 ts),G.all,by omega,by omega,by unfold KF p9;omega,h4 _ (aI _),?_⟩
 cases hf:gw l 1 with
 | true =>
  obtain ⟨t',_,h6⟩:=Sc.1 hf;rw [h6] at h5;obtain ⟨_,h7,h8,_⟩:=h5;have h8:q.l=ts:=h8;refine ⟨h8,.inl ⟨h7.code,?_,rfl⟩⟩;have hr:=congrArg List.length h7.rest;have hle:=h7.le;rw [lE] at hr;rw [h8] at hr hle;simp only [length_nil] at hr;omega
 | false =>
  obtain ⟨pos,h6⟩:=Sc.2 hf;rw [h6] at h5;exact ⟨h5.2.2.2.1,.inr ⟨cE.err h5,rfl⟩⟩
end Go.Sp
namespace Go.Im
open Go.Xp Go.Sp
def PV (p:Src) (x:ae):Bool:=match sC x (x.length+1) 0 [] with
 | none=>false
 | some (ts,c,z)=>if c≠0 then false else match qG (ts.length+1) (40 * ts.length+100) ⟨ts,0,(x.length:Int),0,0⟩ .empty with
  | none=>false
  | some (q,st)=>if q.code≠0 then false else if aB st.trees > 800 then false else same p st
def fI (p:Src):Bool:=if p.nodes.length > 800 then false else match jX p.nodes p.fns 0 [] with
 | none=>false
 | some (l,e)=>if e≠p.nodes.length then false else if l.all j0=false then false else PV p (qz ed iG p l)
theorem DV {p:Src} {x:ae} {ts:List Tok} {c z:Int} {q:RS} {st:PS} (h:Reads x ts c z q st):PV p x=if c≠0 then false else if q.code≠0 then false else if aB st.trees > 800 then false else same p st:=by
 unfold PV;rw [h.lex];simp only;rw [h.read]
theorem ac3 {p:Src} {l:List T} {ls:List (List S)} (h:jj p l) (hf:Forms l ls):fI p=ls.all fun b=>gw b 1:=by
 unfold fI;have h8:=h.few;rw [ab av,h.AB];simp only;rw [ab zf8,ab (by rw [h.k];decide)];obtain ⟨ts,c,z,q,st,hr⟩:=reads (qz ed iG p l);obtain ⟨I,G,h3⟩:=P7 h hf hr;rw [DV hr,ab zgf]
 cases hb:ls.all fun b=>gw b 1 with
 | false=>rw [ah (h3 hb)]
 | true =>
  obtain ⟨k1,k2,k3⟩:=G hb;rw [ab (by simpa using k1),ab av,k3]
theorem sM {p:Src} (h:fI p=true):∃ l,jj p l:=by
 unfold fI at h
 by_cases h8:p.nodes.length > 800
 ·rw [ah h8] at h;cases h
 rw [ab h8] at h
 cases hb:jX p.nodes p.fns 0 [] with
 | none=>exact zba
 | some y =>
  obtain ⟨l,e⟩:=y;rw [hb] at h;simp only at h
  by_cases he:e=p.nodes.length
  ·subst he;rw [ab zf8] at h
   by_cases hk:l.all j0=false
   ·rw [ah hk] at h;cases h
   rw [ab hk] at h;obtain ⟨ts,c,z,q,st,hr⟩:=reads (qz ed iG p l);rw [DV hr] at h;split at h
   ·cases h
   split at h
   ·cases h
   ·rename_i hc;split at h
    ·cases h
    ·exact ⟨l,PW av hb (hr.ok zgx).1 h⟩
  ·rw [ah he] at h;cases h
theorem ac2 {p:Src} (h:rD p=some false):fI p=false:=by
 cases hf:fI p with
 | false=>rfl
 | true =>
  obtain ⟨l,I⟩:=sM hf;rw [I.rD] at h;cases h
theorem ey.ix {nodes:List Nd}:∀ (l:List T) (a i:Nat) (t:T),ey nodes a l->l[i]?=some t->ek nodes (a+aB (l.take i)) t
 | [],a,i,t,_,h=>by simp at h
 | u::r,a,0,t,h,hi=>by
  cases hi;rw [ey] at h;exact h.1
 | u::r,a,i+1,t,h,hi=>by
  rw [ey] at h;have:=ey.ix r (a+aQ u) i t h.2 (by simpa using hi);rw [take_succ_cons,aB,<-iJ];exact this
mutual
theorem T9:∀ t:T,wt t<=nE t
 | .mk n l=>by have:=Ly l;rw [wt,nE];omega
theorem Ly:∀ l:List T,gB l<=jG l
 | []=>aI _
 | t::r=>by have:=T9 t;have:=Ly r;rw [gB,jG];omega
end
theorem QH {p:Src} {l:List T} {ls:List (List S)} (h:jj p l) (hf:Forms l ls) (hw:b7 p<=1048576):Ix p ls:=by
 have hl:=ij.len h.fns;refine ⟨by rw [hf.len];omega,fun i f b I G=>?_⟩;have hi:=(bB G).1;have hlen:=hf.len
 have ht:l[i]?=some (l[i]'av):=by simp [<-hlen,hi]
 obtain ⟨h3,h4⟩:=hf.at_ i _ b ht G;obtain ⟨h5,h6⟩:=ij.at_ h.fns i f _ I ht;have h7:=ey.ix l 0 i _ h.st ht;rw [dJ] at h5 h7;have hm:=bo ht;have h8:=Lm h.st h.len _ hm;have h9:=T9 (l[i]'av);have qa:=ek.le _ _ h7;refine ⟨by omega,h3,by rw [<-h4,XX];omega,_,?_,h4⟩;rw [h5,iK];exact (zm _).1 _ _ h7 zgF
end Go.Im
namespace Go.Sp
open Go.Xp
def RS.left (p:RS):Nat:=p.l.length - p.i
theorem Kf {k:Nat} {s:ae} (h:(levels.getD k []).contains s=true):s≠[]/\k < 9/\s.length<=2:=by
 have hk:k < 9:=Nat.lt_of_not_le fun hk=>by
  rw [List.getD_eq_getElem?_getD,getElem?_eq_none (show levels.length<=k from hk)] at h;cases h
 have key:∀ k:Fin 9,∀ s∈levels.getD k.1 [],s≠[]/\s.length<=2:=by decide
 obtain ⟨I,G⟩:=key ⟨k,hk⟩ s (ea.1 h);exact ⟨I,hk,G⟩
theorem nL {p q:RS} (h:p.to q):q.left<=p.left/\q.left+(q.i - p.i)=p.left/\p.i<=q.i:=by
 obtain ⟨I,-,G,h3⟩:=h;unfold RS.left;rw [I] at G |-;omega
theorem xQ (p:RS) (d:Nat):(p.deep d).left=p.left:=by
 unfold RS.deep RS.fail RS.left;split
 ·split <;> rfl
 ·rfl
theorem sZ {p:RS} (h:p.i < p.l.length):p.next.left+1=p.left:=by
 unfold RS.left RS.next;exact zcb
def vy:J->Nat
 | .expr _=>13
 | .level k _=>12 - k
 | .loop _ _ _=>1
 | .operand _=>2
 | .named _ _ _=>1
theorem SZ:∀ (f:Nat),(∀ j p,p.ok->(∀ k d,j=.level k d->k<=9)->20 * p.left+vy j<=f->∃ t q,mE f j p=some (t,q))/\(∀ d p,p.ok->20 * p.left+14<=f->∃ t q,mL f d p=some (t,q))/\(∀ d acc p,p.ok->20 * p.left+1<=f->∃ t q,td f d acc p=some (t,q))
 | 0=>⟨fun j p _ hk h=>by
   cases j with
   | level k d=>have:=hk k d rfl;simp only [vy] at h;omega
   | _=>simp only [vy] at h;omega,fun d p _ h=>by omega,fun d acc p _ h=>by omega⟩
 | f+1=>by
  obtain ⟨I,G,h3⟩:=SZ f;obtain ⟨t1,t2,t3⟩:=u4 f
  have yS:∀ j:J,(∀ k d,j=.level k d->False)->∀ k d,j=.level k d->k<=9:=fun j h k d e=>(h k d e).elim
  refine ⟨fun j p hp hk h=>?_,fun d p hp h=>?_,fun d acc p hp h=>?_⟩
  ·cases j with
   | expr d =>
    rw [mE];exact I _ _ ((jh hp d).ok hp) (fun k d' e=>by cases e;omega) (by rw [xQ];simp only [vy] at h |-;omega)
   | level k d =>
    have C0:=hk k d rfl;rw [mE]
    by_cases e9:k=9
    ·rw [ah e9];exact I _ _ hp (fun k d' e=>by cases e) zgo
    ·rw [ab e9];obtain ⟨t,q,e⟩:=I (.level (k+1) d) p hp (fun k' d' e=>by cases e;omega) zgo;rw [e];have ht:=t1 _ _ _ _ hp e;exact I _ _ (ht.ok hp) (fun k d' e=>by cases e) zg7
   | loop k d out =>
    rw [mE]
    by_cases hc:p.code=0/\(levels.getD k []).contains (p.sign 0)=true
    ·rw [ah hc];obtain ⟨l1,l2,-⟩:=Kf hc.2;have au:=(dH (k:=0) rfl l1).1;rw [Nat.add_zero] at au;rw [bV au];simp only;have hn:=cX au;have Na:=sZ au
     obtain ⟨t,q,e⟩:=I (.level (k+1) d) p.next (hn.ok hp) (fun k' d' e=>by cases e;omega) zgo
     rw [e];have ht:=t1 _ _ _ _ (hn.ok hp) e;exact I _ _ (ht.ok (hn.ok hp)) (fun k d' e=>by cases e) zg7
    ·rw [ab hc];exact zaJ
   | operand d =>
    rw [mE];have hd:=(jh hp d).ok hp;have hdl:=xQ p d;rw [<-hdl] at h;generalize p.deep d=p at *
    try simp only
    split
    ·split
     ·exact zaJ
     ·rename_i t ht;have au:=(bB ht).1;have hn:=cX au;have Na:=sZ au;split
      ·exact zaJ
      ·split
       ·exact I _ _ ((fj hd).ok hd) (fun k d' e=>by cases e) (by have:=nL (fj hd);simp only [vy] at h |-;omega)
       ·split
        ·obtain ⟨t,q,e⟩:=I (.operand (d+1)) p.next (hn.ok hd) (fun k d' e=>by cases e) zgo
         rw [e];exact zaJ
        ·split
         ·obtain ⟨t,q,e⟩:=I (.expr (d+1)) p.next (hn.ok hd) (fun k d' e=>by cases e) zgo
          rw [e];exact zaJ
         ·exact zaJ
    ·exact zaJ
   | named a s d =>
    rw [mE];split
    ·rename_i hs;have au:=(dH hs ar).1;rw [Nat.add_zero] at au;have hn:=cX au;have Na:=sZ au
     obtain ⟨t,q,e⟩:=I (.expr (d+1)) p.next (hn.ok hp) (fun k d' e=>by cases e) zgo
     rw [e];exact zaJ
    ·split
     ·rename_i hs;have au:=(dH hs ar).1;rw [Nat.add_zero] at au;have hn:=cX au;have Na:=sZ au
      obtain ⟨t,q,e⟩:=G (d+1) p.next (hn.ok hp) (by simp only [vy] at h;omega)
      rw [e];exact zaJ
     ·exact zaJ
  ·rw [mL];split
   ·exact zaJ
   ·obtain ⟨t,q,e⟩:=I (.expr d) p hp (fun k d' e=>by cases e) (by simp only [vy];omega);rw [e];have ht:=t1 _ _ _ _ hp e;exact h3 _ _ _ (ht.ok hp) (by have:=nL ht;omega)
  ·rw [td];split
   ·rename_i hs;have au:=(dH hs ar).1;rw [Nat.add_zero] at au;have hn:=cX au;have Na:=sZ au
    obtain ⟨t,q,e⟩:=I (.expr d) p.next (hn.ok hp) (fun k d' e=>by cases e) (by simp only [vy];omega)
    rw [e];have ht:=t1 _ _ _ _ (hn.ok hp) e;exact h3 _ _ _ (ht.ok (hn.ok hp)) (by have:=nL ht;omega)
   ·exact zaJ
theorem y5 {p:RS} (hp:p.ok) (d:Nat):∃ t q,mX d p=some (t,q):=by
 unfold mX;refine (SZ _).1 _ _ hp (fun k d' e=>by cases e) ?_;unfold fe RS.left;simp only [vy];have:=Nat.sub_le p.l.length p.i;omega
theorem uF {p:RS} {s:ae} (hs:s≠[]) (h:(p.aR s).code=0):p.aR s=p.next/\p.code=0/\p.i < p.l.length:=by
 unfold RS.aR at h |-
 by_cases e:p.sign 0=s
 ·rw [ah e];have:=dH e hs;exact ⟨rfl,this.2,by have:=this.1;omega⟩
 ·rw [ab e] at h;exfalso;unfold RS.fail at h;split at h
  ·cases h
  ·contradiction
theorem QU {f d:Nat} {a:Int} {p q:RS} {t:T} (hp:p.ok) (au:p.i < p.l.length) (h:mS f (.cond a d) p=some (t,q)) (hc:q.code=0):p.i+1<=q.i:=by
 have:=(sq f).1 _ _ _ _ hp (fun a d' _=>au) h
 cases f with
 | zero=>simp [mS] at h
 | succ f =>
  rw [mS] at h;have hn:=cX au;have hm:=hn.trans (bL (hn.ok hp) (s:=[40]) ar)
  have h0:p.next.i=p.i+1:=rfl
  try simp only at h
  split at h
  ·cases h
  ·rename_i e p' he;have R6:=(bL (hn.ok hp) (s:=[40]) ar).trans (gD (hm.ok hp) he);have py:=R6.trans (bL ((hn.trans R6).ok hp) (s:=[41]) ar);split at h
   ·cases h
   ·rename_i b p2 hb;have eM:=py.trans ((sq f).1 _ _ _ _ ((hn.trans py).ok hp) (fun a d' h=>by cases h) hb);split at h
    ·rename_i hs;have cx:=eM.trans (dV hs.2 ar);split at h
     ·cases h
     ·rename_i b2 p3 wM;cases h;have:=(cx.trans ((sq f).1 _ _ _ _ ((hn.trans cx).ok hp) (fun a d' h=>by cases h) wM)).2.2.2;omega
    ·cases h;have:=eM.2.2.2;omega
theorem Tw {f d:Nat} {p q:RS} {t:T} (hp:p.ok) (h:mS f (.stmt d) p=some (t,q)) (hc:q.code=0):p.i+1<=q.i:=by
 cases f with
 | zero=>simp [mS] at h
 | succ f =>
  rw [mS] at h;have hd:=jh hp d;have dM:=hd.ok hp;have hi:=hd.2.2.2;refine jV (Nat.add_le_add_right hi 1) ?_;generalize p.deep d=p' at *
  try simp only at h
  have last:∀ (q':RS),p'.to q'->(q'.aR [59]).code=0->p'.i+1<=(q'.aR [59]).i:=fun q' hq hc=>by
   obtain ⟨e,-,-⟩:=uF ar hc;rw [e];have:=hq.2.2.2;show _<=q'.i+1;omega
  split at h
  ·rename_i hs;have hn:=dV hs ar;have dF:=hn.trans (fj (hn.ok dM));have fM:=dF.trans (bL (dF.ok dM) (s:=[61]) ar);split at h
   ·cases h
   ·rename_i e q' he
    cases h;exact last _ (fM.trans (gD (fM.ok dM) he)) hc
  ·split at h
   ·rename_i hs;refine QU dM ?_ h hc
    rcases hs with hs | hs
    ·exact zer
    ·exact zer
   ·split at h
    ·rename_i hs;have hn:=dV hs ar;split at h
     ·cases h
     ·rename_i e q' he
      cases h;exact last _ (hn.trans (gD (hn.ok dM) he)) hc
    ·split at h
     ·have dF:=fj dM;have fM:=dF.trans (bL (dF.ok dM) (s:=[61]) ar);split at h
      ·cases h
      ·rename_i e q' he
       cases h;exact last _ (fM.trans (gD (fM.ok dM) he)) hc
     ·split at h
      ·cases h
      ·rename_i e q' he;have hx:=gD dM he;split at h
       ·rename_i hs;have hn:=hx.trans (dV hs.2.2 ar);split at h
        ·rename_i a r v p2 hk oU
         cases h;exact last _ (hn.trans (gD (hn.ok dM) oU)) hc
        ·cases h
       ·cases h;exact last _ hx hc
theorem xR:∀ (f:Nat) (j:J) (p q:RS) (t:T),(∀ k d out,j=.loop k d out->out.n.kind=3->out.kids≠[])->mE f j p=some (t,q)->t.n.kind=3->t.kids≠[]
 | 0,j,p,q,t,_,h,_=>by simp [mE] at h
 | f+1,j,p,q,t,ho,h,h3=>by
  cases j with
  | expr d=>rw [mE] at h;exact zdz
  | level k d =>
   rw [mE] at h;split at h
   ·exact zdz
   ·split at h
    ·cases h
    ·rename_i out q' he;exact xR f _ _ _ _ (fun k d o e=>by cases e;exact xR f _ _ _ _ (fun k d o e=>by cases e) he) h h3
  | loop k d out =>
   rw [mE] at h;split at h
   ·split at h
    ·cases h
    ·split at h
     ·cases h
     ·exact xR f _ _ _ _ (fun k d o e h6=>by cases e;cases h6) h h3
   ·cases h;exact ho _ _ _ rfl h3
  | operand d =>
   rw [mE] at h;generalize p.deep d=p at *
   try simp only at h
   split at h
   ·split at h
    ·cases h;cases h3
    ·split at h
     ·cases h;cases h3
     ·split at h
      ·exact zdz
      ·split at h
       ·split at h
        ·cases h
        ·cases h;cases h3
       ·split at h
        ·split at h
         ·cases h
         ·rename_i a q' he;cases h;exact xR f _ _ _ _ (fun k d o e=>by cases e) he h3
        ·cases h;cases h3
   ·cases h;cases h3
  | named a s d =>
   rw [mE] at h;split at h
   ·split at h
    ·cases h
    ·cases h;exact fun e=>by cases e
   ·split at h
    ·split at h
     ·cases h
     ·cases h;cases h3
    ·cases h;cases h3
theorem S1:∀ (f:Nat),(∀ d p,p.ok->5 * p.left+4<=f->∃ t q,mS f (.block d) p=some (t,q))/\(∀ d p,p.ok->5 * p.left+2<=f->∃ t q,mS f (.stmt d) p=some (t,q))/\(∀ a d p,p.ok->p.i < p.l.length->5 * p.left+1<=f->∃ t q,mS f (.cond a d) p=some (t,q)) /\
  (∀ d acc p,p.ok->5 * p.left+3<=f->∃ t q,mB f d acc p=some (t,q))
 | 0=>⟨fun d p _ h=>by omega,fun d p _ h=>by omega,fun a d p _ _ h=>by omega,fun d acc p _ h=>by omega⟩
 | f+1=>by
  obtain ⟨I,G,h3,h4⟩:=S1 f;refine ⟨fun d p hp h=>?_,fun d p hp h=>?_,fun a d p hp au h=>?_,fun d acc p hp h=>?_⟩
  ·rw [mS];have hd:=(jh hp d).ok hp;rw [<-xQ p d] at h;generalize p.deep d=p at *
   try simp only
   have hm:=bL hd (s:=[123]) ar;obtain ⟨t,q,e⟩:=h4 (d+1) [] (p.aR [123]) (hm.ok hd) (by have:=nL hm;omega);rw [e];exact zaJ
  ·rw [mS];have hd:=(jh hp d).ok hp;rw [<-xQ p d] at h;generalize p.deep d=p at *
   try simp only
   split
   ·rename_i hs;have hn:=dV hs ar;have dF:=hn.trans (fj (hn.ok hd));exact zc6
   ·split
    ·rename_i hs;refine h3 _ _ _ hd ?_ av
     rcases hs with hs | hs
     ·exact zer
     ·exact zer
    ·split
     ·rename_i hs;have hn:=dV hs ar;obtain ⟨t,q,e⟩:=y5 (hn.ok hd) (d+1);rw [e];exact zaJ
     ·split
      ·have dF:=fj hd;exact zc6
      ·obtain ⟨t,q,e⟩:=y5 hd (d+1);rw [e];have hx:=gD hd e;simp only;split
       ·rename_i hs;have hn:=hx.trans (dV hs.2.2 ar);obtain ⟨t2,q2,e2⟩:=y5 (hn.ok hd) (d+1);rw [e2];have cj:=xR _ _ _ _ _ (fun k d o e=>by cases e) e hs.1
        cases hk:t.kids with
        | nil=>exact absurd hk cj
        | cons a r=>exact zaJ
       ·exact zaJ
  ·rw [mS];have hn:=cX au;have Na:=sZ au;have hm:=hn.trans (bL (hn.ok hp) (s:=[40]) ar);obtain ⟨e,q,he⟩:=y5 (hm.ok hp) (d+1);rw [he];simp only;have hx:=hm.trans (gD (hm.ok hp) he);have py:=hx.trans (bL (hx.ok hp) (s:=[41]) ar)
   have hq:(q.aR [41]).left+1<=p.left:=by
    have a1:=nL (bL (hn.ok hp) (s:=[40]) ar);have a2:=nL (gD (hm.ok hp) he);have a3:=nL (bL (hx.ok hp) (s:=[41]) ar);omega
   obtain ⟨b,q2,hb⟩:=I (d+1) (q.aR [41]) (py.ok hp) av;rw [hb];simp only;have eM:=(sq f).1 _ _ _ _ (py.ok hp) (fun a d' h=>by cases h) hb;split
   ·rename_i hs;have cx:=(py.trans eM).trans (dV hs.2 ar)
    obtain ⟨b2,q3,wM⟩:=I (d+1) q2.next (cx.ok hp) (by
     have a1:=nL eM;have a2:=nL (dV hs.2 ar)
     omega)
    rw [wM];exact zaJ
   ·exact zaJ
  ·rw [mB];split
   ·obtain ⟨a,q,e⟩:=G d p hp av;rw [e];simp only;have ht:=(sq f).1 _ _ _ _ hp (fun a d' h=>by cases h) e
    by_cases hc:q.code=0
    ·have:=Tw hp e hc;refine h4 _ _ _ (ht.ok hp) ?_;have:=nL ht;omega
    ·cases f with
     | zero=>omega
     | succ f =>
      rw [mB,ab (fun h=>hc h.1)];exact zaJ
   ·exact zaJ
end Go.Sp
