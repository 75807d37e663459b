/- Part 2 of proofs that are told in their last texts. -/
import Derived.Test.YtfahcenafcklmaaGreatDoorY1
open List (all_cons cons_append drop_left find?_eq_none flatMap_cons foldl_cons getElem?_eq_none getElem?_take length_cons length_nil map_map mem_append mem_cons_self mem_singleton nil_append sum_cons tail_cons take_append_drop take_succ_cons take_zero zip_cons_cons)
set_option linter.unusedVariables false
set_option linter.unusedSimpArgs false
set_option maxRecDepth 100000
namespace Go.Xp
section
variable {e:Int} {d:Nat} {ts rest:List Tok} {Q:T->Prop} {b:Bool}
theorem S.head {s:S} (ho:s.ok=true) (ht:ts.map kf=s.tk):∃ t r,ts=t::r/\∀ rest,sign (t::rest) 0≠ju/\sign (t::rest) 0≠[125]:=by
 cases s with
 | set s a =>
  exact zb4
 | put s a b =>
  exact zb4
 | if1 c b =>
  exact zas
 | if2 c b b2 =>
  exact zas
 | while_ c b =>
  exact zas
 | ret a =>
  exact zas
 | var s a =>
  exact zas
 | do_ a =>
  simp only [S.ok] at ho;obtain ⟨k0,r0,hh,hf⟩:=E.head a ho;rw [S.tk,hh] at ht;obtain ⟨t,r,rfl,D,_⟩:=map_cons ht;refine ⟨t,r,rfl,fun rest=>?_⟩
  rcases B5 (r:=rest) (by rw [D];exact hf) with h | h | h | h | h <;> (rw [h];decide)
def tF (l:List S):Prop:=∀ (e:Int) (d:Nat) (acc:List T) (ts rest:List Tok) (u:Tok),S.dA l=true->ts.map kf=S.o9 l->u.kind=3->u.s=[125] ->
 (S.fits l d=true->∃ ys,aZ ys=S.trees l/\Eb e d acc (ts++u::rest) (.ok (acc++ys,rest)))/\(S.fits l d=false->∃ pos,Eb e d acc (ts++u::rest) (.error (9,pos)))
theorem Oo:tF []:=by
 intro e d acc ts rest u _ ht hu gS
 have:ts=[]:=by simpa [S.o9] using ht
 subst this;refine ⟨fun _=>⟨[],rfl,1,fun f hf=>?_⟩,fun h=>by simp [S.fits] at h⟩;obtain ⟨f,rfl⟩:∃ g,f=g+1:=⟨f - 1,by omega⟩;rw [rs.body,ae (by exact vS hu gS),ef];rfl
theorem Ml {a:S} {l:List S} (Ca:tG a) (Cl:tF l):tF (a::l):=by
 intro e d acc ts rest u ho ht hu gS;simp only [S.dA,aI] at ho;rw [S.o9] at ht;obtain ⟨A,B,rfl,h3,h4⟩:=dT ht;obtain ⟨t,r,rfl,hh⟩:=S.head ho.1 h3
 have bT:sign (B++u::rest) 0≠ju:=by
  cases l with
  | nil =>
   have:B=[]:=by simpa [S.o9] using h4
   subst this;rw [nil_append,vS hu gS];decide
  | cons a' l' =>
   simp only [S.dA,aI] at ho;rw [S.o9] at h4;obtain ⟨A',B',rfl,h5,h6⟩:=dT h4;obtain ⟨t',r',rfl,XF⟩:=S.head ho.2.1 h5;exact (XF _).1
 have hx:=Ca e d (t::r) (B++u::rest) ho.1 h3 bT
 have he:t::r++B++u::rest=t::r++(B++u::rest):=by simp
 have hs:sign (t::r++(B++u::rest)) 0≠[125]:=(hh _).2;rw [he,S.fits]
 cases hfa:a.fit d with
 | false =>
  refine ⟨fun hb=>zgh,fun _=>?_⟩;obtain ⟨pos,f0,h0⟩:=hx.2 hfa;refine ⟨pos,f0+1,fun f hf=>?_⟩;obtain ⟨f,rfl⟩:∃ g,f=g+1:=⟨f - 1,by omega⟩;rw [rs.body,ab hs,h0 f aq]
 | true =>
  obtain ⟨ta,k1,f0,h0⟩:=hx.1 hfa;have hl:=Cl e d (acc++[ta]) B rest u ho.2 h4 hu gS;refine ⟨fun hb=>?_,fun hb=>?_⟩
  ·obtain ⟨ys,k3,dH,k4⟩:=hl.1 zfL;refine ⟨ta::ys,by rw [aZ,k1,k3,S.trees],f0+dH+1,fun f hf=>?_⟩;obtain ⟨f,rfl⟩:∃ g,f=g+1:=⟨f - 1,by omega⟩;rw [rs.body,ab hs,h0 f aq];simp only;rw [k4 f aq,fP];rfl
  ·obtain ⟨pos,dH,k3⟩:=hl.2 zfL;refine ⟨pos,f0+dH+1,fun f hf=>?_⟩;obtain ⟨f,rfl⟩:∃ g,f=g+1:=⟨f - 1,by omega⟩;rw [rs.body,ab hs,h0 f aq];exact k3 f aq
theorem tF.blk {l:List S} (C:tF l) {A:List Tok} {u w:Tok} (ho:S.dA l=true) (ht:A.map kf=S.o9 l) (hu:u.kind=3) (gS:u.s=[123]) (hw:w.kind=3) (FM:w.s=[125]) :
  Sx e (.block d) (u::(A++w::rest)) rest (fun t=>er t=.mk ⟨14,0,0,[],[]⟩ (S.trees l)) (decide (d<=60)&&S.fits l (d+1)):=by
 have hb:=C e (d+1) [] A rest w ho ht hw FM
 by_cases hd:d<=60
 ·have:(decide (d<=60)&&S.fits l (d+1))=S.fits l (d+1):=by simp [hd]
  rw [this];refine ⟨fun h=>?_,fun h=>?_⟩
  ·obtain ⟨ys,k1,f0,h0⟩:=hb.1 h;refine ⟨one 14 u.at_ [] ys,by show er _=_;rw [ey,k1],f0+1,fun f hf=>?_⟩;obtain ⟨f,rfl⟩:∃ g,f=g+1:=⟨f - 1,by omega⟩;rw [rs,ab aq,sY hu gS];simp only;rw [h0 f aq];rfl
  ·obtain ⟨pos,f0,h0⟩:=hb.2 h;refine ⟨pos,f0+1,fun f hf=>?_⟩;obtain ⟨f,rfl⟩:∃ g,f=g+1:=⟨f - 1,by omega⟩;rw [rs,ab aq,sY hu gS];simp only;rw [h0 f aq]
 ·have:(decide (d<=60)&&S.fits l (d+1))=false:=by simp [hd]
  exact zde
theorem zL {j:ur} {x:Rd T} {kv:List Tok} {j':ur} {x':Rd T} (h:Es e j ts x) (hs:∀ f,rs e f j ts=x->rs e (f+1) j' kv=x'):Es e j' kv x':=by
 exact zb8
theorem Km {j j2:ur} {x x2:Rd T} {kv yh:List Tok} {j':ur} {x':Rd T} (h:Es e j ts x) (X:Es e j2 yh x2) (hs:∀ f,rs e f j ts=x->rs e f j2 yh=x2->rs e (f+1) j' kv=x'):Es e j' kv x':=by
 exact zbA
theorem Rz (c:E) {l:List S} (C:tF l):tG (.if1 c l):=by
 intro e d ts rest ho ht fB;simp only [S.ok,aI] at ho;rw [S.tk] at ht;obtain ⟨v,r,rfl,D,X⟩:=map_cons ht;obtain ⟨u,r,rfl,h3,h4⟩:=map_cons X;obtain ⟨A,r,rfl,h5,h6⟩:=dT h4;obtain ⟨w,r,rfl,h7,h8⟩:=map_cons h6;obtain ⟨x,r,rfl,h9,oO⟩:=map_cons h8;obtain ⟨B,r,rfl,qP,nN⟩:=dT oO;obtain ⟨y,rfl,fH⟩:=jD nN;obtain ⟨D,dp⟩:=eR D;obtain ⟨h3,mr⟩:=eR h3;obtain ⟨h7,mK⟩:=eR h7;obtain ⟨h9,FC⟩:=eR h9;obtain ⟨fH,Cc⟩:=eR fH
 have he:v::u::(A++w::x::(B++[y]))++rest=v::u::(A++w::(x::(B++y::rest))):=by simp
 have hi:=xL (e:=e) (d:=d+1) (rest:=x::(B++y::rest)) ho.1 h5 h3 mr h7 mK zfu;have hb:=C.blk (e:=e) (d:=d+1) (rest:=rest) ho.2 qP h9 FC fH Cc;have hv:=vS (rest:=u::(A++w::(x::(B++y::rest)))) D dp;rw [he,S.fit]
 refine rO fun hd=>?_
 cases hfa:rY c (d+1) with
 | false =>
  exact zbj
 | true =>
  obtain ⟨tc,k1,k2⟩:=hi.1 hfa;rw [Bool.true_and];refine ⟨fun h=>?_,fun h=>?_⟩
  ·obtain ⟨tb,k3,k4⟩:=hb.1 h;refine ⟨one 9 v.at_ [] [tc,tb],by show er _=_;rw [ey,aZ,aZ,k1,k3,S.tree];rfl,zL k4 fun f k4=>?_⟩;refine zaJ ?_;rw [k4];simp only;rw [ae hv,ab fB];rfl
  ·obtain ⟨pos,k3⟩:=hb.2 h;exact ze9
theorem Mn (c:E) {l:List S} (C:tF l):tG (.while_ c l):=by
 intro e d ts rest ho ht fB;simp only [S.ok,aI] at ho;rw [S.tk] at ht;obtain ⟨v,r,rfl,D,X⟩:=map_cons ht;obtain ⟨u,r,rfl,h3,h4⟩:=map_cons X;obtain ⟨A,r,rfl,h5,h6⟩:=dT h4;obtain ⟨w,r,rfl,h7,h8⟩:=map_cons h6;obtain ⟨x,r,rfl,h9,oO⟩:=map_cons h8;obtain ⟨B,r,rfl,qP,nN⟩:=dT oO;obtain ⟨y,rfl,fH⟩:=jD nN;obtain ⟨D,dp⟩:=eR D;obtain ⟨h3,mr⟩:=eR h3;obtain ⟨h7,mK⟩:=eR h7;obtain ⟨h9,FC⟩:=eR h9;obtain ⟨fH,Cc⟩:=eR fH
 have he:v::u::(A++w::x::(B++[y]))++rest=v::u::(A++w::(x::(B++y::rest))):=by simp
 have hi:=xL (e:=e) (d:=d+1) (rest:=x::(B++y::rest)) ho.1 h5 h3 mr h7 mK zfu;have hb:=C.blk (e:=e) (d:=d+1) (rest:=rest) ho.2 qP h9 FC fH Cc;have hv:=vS (rest:=u::(A++w::(x::(B++y::rest)))) D dp;rw [he,S.fit]
 refine rO fun hd=>?_
 cases hfa:rY c (d+1) with
 | false =>
  refine ⟨fun hb=>zgh,fun _=>?_⟩;obtain ⟨pos,k1⟩:=hi.2 hfa;refine ⟨pos,uB fun f=>?_⟩;rw [rs,ab aq];simp only;rw [ab zgi,ae (.inr hv),tail_cons,k1]
 | true =>
  obtain ⟨tc,k1,k2⟩:=hi.1 hfa;rw [Bool.true_and];refine ⟨fun h=>?_,fun h=>?_⟩
  ·obtain ⟨tb,k3,k4⟩:=hb.1 h;refine ⟨one 10 v.at_ [] [tc,tb],by show er _=_;rw [ey,aZ,aZ,k1,k3,S.tree];rfl,zL k4 fun f k4=>?_⟩;rw [rs,ab aq];simp only;rw [ab zgi,ae (.inr hv),tail_cons,k2];simp only;rw [k4];simp only;rw [ab zgi];rfl
  ·obtain ⟨pos,k3⟩:=hb.2 h;refine ⟨pos,zL k3 fun f k3=>?_⟩;rw [rs,ab aq];simp only;rw [ab zgi,ae (.inr hv),tail_cons,k2];simp only;rw [k3]
theorem RA (c:E) {l l2:List S} (C:tF l) (C2:tF l2):tG (.if2 c l l2):=by
 intro e d ts rest ho ht fB;simp only [S.ok,aI] at ho;rw [S.tk] at ht;obtain ⟨v,r,rfl,D,X⟩:=map_cons ht;obtain ⟨u,r,rfl,h3,h4⟩:=map_cons X;obtain ⟨A,r,rfl,h5,h6⟩:=dT h4;obtain ⟨w,r,rfl,h7,h8⟩:=map_cons h6;obtain ⟨x,r,rfl,h9,oO⟩:=map_cons h8;obtain ⟨B,r,rfl,qP,nN⟩:=dT oO;obtain ⟨y,r,rfl,fH,C0⟩:=map_cons nN;obtain ⟨z,r,rfl,Xb,h16⟩:=map_cons C0;obtain ⟨x2,r,rfl,Xc,h18⟩:=map_cons h16;obtain ⟨B2,r,rfl,h19,h20⟩:=dT h18;obtain ⟨y2,rfl,Kz⟩:=jD h20;obtain ⟨D,dp⟩:=eR D;obtain ⟨h3,mr⟩:=eR h3;obtain ⟨h7,mK⟩:=eR h7;obtain ⟨h9,FC⟩:=eR h9;obtain ⟨fH,Cc⟩:=eR fH;obtain ⟨Xb,aa6⟩:=eR Xb;obtain ⟨Xc,aa7⟩:=eR Xc;obtain ⟨Kz,aa8⟩:=eR Kz
 have he:v::u::(A++w::x::(B++y::z::x2::(B2++[y2])))++rest=v::u::(A++w::(x::(B++y::(z::(x2::(B2++y2::rest)))))):=by simp
 have hi:=xL (e:=e) (d:=d+1) (rest:=x::(B++y::(z::(x2::(B2++y2::rest))))) ho.1 h5 h3 mr h7 mK zfu;have hb:=C.blk (e:=e) (d:=d+1) (rest:=z::(x2::(B2++y2::rest))) ho.2.1 qP h9 FC fH Cc;have ej:=C2.blk (e:=e) (d:=d+1) (rest:=rest) ho.2.2 h19 Xc aa7 Kz aa8;have hv:=vS (rest:=u::(A++w::(x::(B++y::(z::(x2::(B2++y2::rest))))))) D dp;have hz:=vS (rest:=x2::(B2++y2::rest)) Xb aa6;rw [he,S.fit]
 refine rO fun hd=>?_
 cases hfa:rY c (d+1) with
 | false =>
  exact zbj
 | true =>
  obtain ⟨tc,k1,k2⟩:=hi.1 hfa;rw [Bool.true_and]
  cases hfb:(decide (d+1<=60)&&S.fits l (d+2)) with
  | false =>
   refine ⟨fun hb=>zgh,fun _=>?_⟩;obtain ⟨pos,k3⟩:=hb.2 hfb;exact ze9
  | true =>
   obtain ⟨tb,k3,k4⟩:=hb.1 hfb;rw [Bool.true_and];refine ⟨fun h=>?_,fun h=>?_⟩
   ·obtain ⟨tb2,k5,k6⟩:=ej.1 h;refine ⟨one 9 v.at_ [] [tc,tb,tb2],by show er _=_;rw [ey,aZ,aZ,aZ,k1,k3,k5,S.tree];rfl,Km k4 k6 fun f k4 k6=>?_⟩;refine zaJ ?_;rw [k4];simp only;rw [ae hv,ae hz,tail_cons,k6];rfl
   ·obtain ⟨pos,k5⟩:=ej.2 h;refine ⟨pos,Km k4 k5 fun f k4 k5=>?_⟩;refine zaJ ?_;rw [k4];simp only;rw [ae hv,ae hz,tail_cons,k5]
end
mutual
theorem coreS:∀ (s:S),tG s
 | .set s a=>RE s a
 | .put s a b=>RC s a b
 | .if1 c b=>Rz c (AP b)
 | .if2 c b b2=>RA c (AP b) (AP b2)
 | .while_ c b=>Mn c (AP b)
 | .ret a=>RD a
 | .do_ a=>U8 a
 | .var s a=>RF s a
theorem AP:∀ (l:List S),tF l
 | []=>Oo
 | a::l=>Ml (coreS a) (AP l)
end
def Mc (l:List S):List K:=kS [123]::(S.o9 l++[kS [125]])
def cB (l:List S):T:=.mk ⟨14,0,0,[],[]⟩ (S.trees l)
def fG (l:List S) (d:Nat):Bool:=decide (d<=60)&&S.fits l (d+1)
theorem aaj (e:Int):∀ f,(∀ j ts,rs e f j ts=.error bo\/rs e (f+1) j ts=rs e f j ts)/\(∀ d acc ts,rs.body e f d acc ts=.error bo\/rs.body e (f+1) d acc ts=rs.body e f d acc ts):=by
 intro f
 induction f with
 | zero=>exact ⟨fun j ts=>.inl zgo,fun d acc ts=>.inl (by simp [rs.body])⟩
 | succ f ih =>
  obtain ⟨i1,i2⟩:=ih;refine ⟨fun j ts=>?_,fun d acc ts=>?_⟩
  ·cases j with
   | block d =>
    rw [rs,rs];split
    ·exact zbq
    ·cases aL e [123] ts with
     | error x=>exact zbq
     | ok r =>
      simp only
      rcases i2 (d+1) [] r with h | h
      ·left;rw [h]
      ·rw [h];exact zbq
   | stmt d =>
    rw [rs,rs];split
    ·exact zbq
    ·simp only;split
     ·exact zbq
     ·split
      ·cases inner e (d+1) [40] [41] ts.tail with
       | error x=>exact zbq
       | ok y =>
        obtain ⟨c,r⟩:=y;simp only
        rcases i1 (.block (d+1)) r with h | h
        ·left;rw [h]
        ·rw [h]
         cases rs e f (.block (d+1)) r with
         | error x=>exact zbq
         | ok y =>
          obtain ⟨b,r⟩:=y;simp only;split
          ·split
           ·rcases i1 (.block (d+1)) r.tail with h | h
            ·left;rw [h]
            ·rw [h];exact zbq
           ·exact zbq
          ·exact zbq
      ·exact zbq
  ·rw [rs.body,rs.body];split
   ·exact zbq
   ·rcases i1 (.stmt d) ts with h | h
    ·left;rw [h]
    ·rw [h]
     cases rs e f (.stmt d) ts with
     | error x=>exact zbq
     | ok y=>exact i2 _ _ _
theorem V2 {e:Int} {f f':Nat} {j:ur} {ts:List Tok} (h:rs e f j ts≠.error bo) (hf:f<=f'):rs e f' j ts=rs e f j ts:=by
 obtain ⟨k,rfl⟩:=Nat.exists_eq_add_of_le hf;clear hf
 induction k with
 | zero=>rfl
 | succ k ih =>
  rcases (aaj e (f+k)).1 j ts with D | D
  ·rw [ih] at D;exact absurd D h
  ·rw [<-iy,D,ih]
theorem G2 {l:List S} {e:Int} {d:Nat} {ts rest:List Tok} (ho:S.dA l=true) (ht:ts.map kf=Mc l) :
  (fG l d=true->∃ t,er t=cB l/\block e d (ts++rest)=.ok (t,rest))/\(fG l d=false->∃ pos,block e d (ts++rest)=.error (9,pos)):=by
 obtain ⟨u,r,rfl,D,X⟩:=map_cons ht;obtain ⟨A,r,rfl,h3,h4⟩:=dT X;obtain ⟨w,rfl,h5⟩:=jD h4;obtain ⟨D,dp⟩:=eR D;obtain ⟨h5,TM⟩:=eR h5;have hb:=(AP l).blk (e:=e) (d:=d) (rest:=rest) ho h3 D dp h5 TM
 have he:u::(A++[w])++rest=u::(A++w::rest):=by simp
 rw [he]
 have key:∀ {x:Rd T},Es e (.block d) (u::(A++w::rest)) x->block e d (u::(A++w::rest))=x:=by
  rintro x ⟨f0,h0⟩;have bT:rs e (oN (u::(A++w::rest))) (.block d) (u::(A++w::rest))≠.error bo:=yl;have:=V2 bT (Nat.le_add_left _ f0);rw [h0 _ aq] at this;exact this.symm
 exact ⟨fun h=>by obtain ⟨t,k1,k2⟩:=hb.1 h;exact ⟨t,k1,key k2⟩,fun h=>by obtain ⟨pos,k1⟩:=hb.2 h;exact ⟨pos,key k1⟩⟩
open Go.Sp (dQ cR cy own oX bJ)
def Bn (n:Int):Int:=if n % 4294967296 > 2147483647 then n % 4294967296 - 4294967296 else n % 4294967296
def gJ (n:Nat):ah:=if h:n < 10 then [UInt8.ofNat (48+n)] else gJ (n / 10)++[UInt8.ofNat (48+n % 10)]
termination_by n
decreasing_by omega
theorem G7 (n:Nat):(gJ n).length<=n+1:=by
 induction n using Nat.strongRecOn with
 | _ n ih =>
 unfold gJ
 by_cases h:n < 10
 ·rw [dif_pos h];simp
 ·rw [dif_neg h,aO];have:=ih (n / 10) aq;simp;omega
def cr:List ah->ah
 | []=>[]
 | x::r=>x++r.flatMap fun y=>44::32::y
theorem Dp {l:List ah} (h:l≠[]) (x:ah):cr (l++[x])=(cr l++[44,32])++x:=by
 cases l with
 | nil=>exact absurd rfl h
 | cons a l=>simp [cr,List.flatMap_append]
theorem yH (l:List ah) (k:Nat):(cr (l.take k)).length<=(cr l).length:=by
 cases l with
 | nil=>simp
 | cons a l =>
  cases k with
  | zero=>simp [cr]
  | succ k =>
   simp only [take_succ_cons,cr,aO]
   have:∀ (l:List ah) (k:Nat),((l.take k).flatMap fun y=>(44:UInt8)::32::y).length<=(l.flatMap fun y=>(44:UInt8)::32::y).length:=by
    intro l
    induction l with
    | nil=>intro k;simp
    | cons b l ih=>intro k;cases k with
     | zero=>simp
     | succ k=>simp only [take_succ_cons,flatMap_cons,aO];have:=ih k;omega
   have:=this l k;omega
def sC (lv k:Nat) (x:ah):ah:=if lv < k then (40::x)++[41] else x
mutual
def E.bF:E->ah
 | .num n=>gJ n.toNat
 | .name s=>s
 | .at_ s a=>((s++[91])++a.bF)++[93]
 | .call s l=>((s++[40])++cr (E.dy l))++[41]
 | .un s a=>(s++[32])++sC a.lv 9 a.bF
 | .bin s a b=>(((sC a.lv (eS s) a.bF++[32])++s)++[32])++sC b.lv (eS s+1) b.bF
def E.dy:List E->List ah
 | []=>[]
 | a::l=>a.bF::E.dy l
end
mutual
def E.full:E->ah
 | .num n=>gJ n.toNat
 | .name s=>s
 | .at_ s a=>((s++[91])++a.full)++[93]
 | .call s l=>((s++[40])++cr (E.uM l))++[41]
 | .un s a=>((40::s)++a.full)++[41]
 | .bin s a b=>(((((40::a.full)++[32])++s)++[32])++b.full)++[41]
def E.uM:List E->List ah
 | []=>[]
 | a::l=>a.full::E.uM l
end
theorem E.Tg (l:List E):E.dy l=l.map E.bF:=by
 induction l with
 | nil=>rfl
 | cons a l ih=>rw [E.dy,ih];rfl
theorem E.OZ (l:List E):E.uM l=l.map E.full:=by
 induction l with
 | nil=>rfl
 | cons a l ih=>rw [E.uM,ih];rfl
def E.out (least:Bool) (a:E):ah:=if least then a.bF else a.full
mutual
def S.bF (x:E->ah):S->ah
 | .set s a=>((s++[32,61,32])++x a)++[59]
 | .put s a b=>((((s++[91])++x a)++[93,32,61,32])++x b)++[59]
 | .if1 c b=>(([105,102,32,40]++x c)++[41,32])++(S.dy x [123,32] b++[125])
 | .if2 c b b2=>(((([105,102,32,40]++x c)++[41,32])++(S.dy x [123,32] b++[125]))++[32,101,108,115,101,32])++(S.dy x [123,32] b2++[125])
 | .while_ c b=>(([119,104,105,108,101,32,40]++x c)++[41,32])++(S.dy x [123,32] b++[125])
 | .ret a=>([114,101,116,117,114,110,32]++x a)++[59]
 | .do_ a=>x a++[59]
 | .var s a=>((([118,97,114,32]++s)++[32,61,32])++x a)++[59]
def S.dy (x:E->ah):ah->List S->ah
 | acc,[]=>acc
 | acc,a::l=>S.dy x ((acc++a.bF x)++[32]) l
end
def gA (x:E->ah) (l:List S):ah:=S.dy x [123,32] l++[125]
theorem J1 (n:Nd) (l:List T):dQ (.mk n l)=(cR l&&cy (.mk n l)):=by rw [dQ]
theorem we {l:List T} (h:cR l=true) {t:T} (ht:t∈l):dQ t=true:=by
 induction l with
 | nil=>cases ht
 | cons a l ih =>
  rw [cR,aI] at h
  rcases eF ht with rfl | ht
  ·exact h.1
  ·exact ih h.2 ht
theorem oo (n:Nd) (l:List T):er (.mk n l)=.mk ⟨n.kind,0,n.n,n.s,[]⟩ (aZ l):=by rw [er]
theorem jV {l:List T} {m i:Nat} (h:bJ m i l=true):∀ (j:Nat) t,l[j]?=some t->(if i+j < m then oX t.n.kind else t.n.kind==14)=true:=by
 induction l generalizing i with
 | nil=>intro j t h;simp at h
 | cons a l ih =>
  rw [bJ,aI] at h;intro j t hj
  cases j with
  | zero=>cases hj;exact h.1
  | succ j=>have:=ih h.2 j t zfI;rw [show i+(j+1)=i+1+j by omega];exact this
theorem Hh:∀ (l:List T),(∀ t∈l,∃ a:E,a.ok=true/\er t=a.tree)->∃ es:List E,E.dA es=true/\aZ l=E.trees es
 | [],_=>⟨[],rfl,rfl⟩
 | t::l,h=>by
  obtain ⟨a,D,X⟩:=h t (mem_cons_self);obtain ⟨es,h3,h4⟩:=Hh l (fun t ht=>h t (dm _ ht));exact ⟨a::es,by simp [E.dA,D,h3],by rw [aZ,E.trees,X,h4]⟩
theorem toE:∀ (sz:Nat) (t:T),sizeOf t<=sz->dQ t=true->oX t.n.kind=true->∃ a:E,a.ok=true/\er t=a.tree:=by
 intro sz
 induction sz with
 | zero=>intro t h;cases t;simp at h
 | succ sz ih =>
  intro t dR ha hk;obtain ⟨n,l⟩:=t;rw [J1,aI] at ha;obtain ⟨ha,ho⟩:=ha
  have se:∀ t∈l,oX t.n.kind=true->∃ a:E,a.ok=true/\er t=a.tree:=fun t ht hk=>by
   have:=List.sizeOf_lt_of_mem ht;exact ih t zgf (we ha ht) hk
  obtain ⟨k,at_,v,s,ks⟩:=n
  have hk:(1:Int)<=k/\k<=6:=by
   simp only [oX,T.n,aI] at hk;exact ⟨nD hk.1,nD hk.2⟩
  simp only [cy,own,T.n,T.kids] at ho
  obtain rfl | rfl | rfl | rfl | rfl | rfl:k=1\/k=2\/k=3\/k=4\/k=5\/k=6:=by omega
  ·simp at ho;obtain ⟨D,X,h3,h4,h5⟩:=ho;subst h4 h5;exact ⟨.num v,by simp only [E.ok,aI];exact ⟨X,h3⟩,by rw [oo,E.tree];rfl⟩
  ·simp at ho;obtain ⟨D,X,h3,h4⟩:=ho;subst X h4;exact ⟨.name s,by simp [E.ok,h3],by rw [oo,E.tree];rfl⟩
  ·simp at ho;obtain ⟨D,X,h3,h4,h5⟩:=ho;subst X
   match l,h4 with
   | [t],_ =>
    have zq:=jV h5 0 t rfl;obtain ⟨a,h6,h7⟩:=se t zfu (by simpa using zq);exact ⟨.at_ s a,by simp [E.ok,h3,h6],by rw [oo,E.tree,aZ,h7];rfl⟩
  ·simp at ho;obtain ⟨D,X,h3,h5⟩:=ho;subst X
   obtain ⟨es,h6,h7⟩:=Hh l fun t ht=>se t ht (by
    obtain ⟨j,hj⟩:=List.mem_iff_getElem?.1 ht;have au:=(bu hj).1;have:=jV h5 j t hj
    rw [ae aq] at this;exact this)
   exact ⟨.call s es,by simp [E.ok,h3,h6],by rw [oo,E.tree,h7]⟩
  ·simp at ho;obtain ⟨D,X,h3,h4,h5⟩:=ho;subst X
   match l,h4 with
   | [t],_ =>
    have zq:=jV h5 0 t rfl;obtain ⟨a,h6,h7⟩:=se t zfu (by simpa using zq);exact ⟨.un s a,by simp only [E.ok,h6,Bool.and_true,Bool.or_eq_true,beq_iff_eq];exact h3,by rw [oo,E.tree,aZ,h7];rfl⟩
  ·simp at ho;obtain ⟨D,X,h3,h4,h5⟩:=ho;subst X
   match l,h4 with
   | [t,u],_ =>
    have zq:=jV h5 0 t rfl;have hku:=jV h5 1 u rfl;obtain ⟨a,h6,h7⟩:=se t zfu (by simpa using zq);obtain ⟨b,h8,h9⟩:=se u zfu (by simpa using hku);exact ⟨.bin s a b,by simp [E.ok,h3,h6,h8],by rw [oo,E.tree,aZ,aZ,h7,h9];rfl⟩
open Go.Sp (jt)
theorem IP:∀ (l:List T),(∀ t∈l,∃ a:S,a.ok=true/\er t=a.tree)->∃ es:List S,S.dA es=true/\aZ l=S.trees es
 | [],_=>⟨[],rfl,rfl⟩
 | t::l,h=>by
  obtain ⟨a,D,X⟩:=h t (mem_cons_self);obtain ⟨es,h3,h4⟩:=IP l (fun t ht=>h t (dm _ ht));exact ⟨a::es,by simp [S.dA,D,h3],by rw [aZ,S.trees,X,h4]⟩
theorem toS:∀ (sz:Nat) (t:T),sizeOf t<=sz->dQ t=true->(jt t.n.kind=true->∃ a:S,a.ok=true/\er t=a.tree)/\(t.n.kind=14->∃ l:List S,S.dA l=true/\er t=cB l):=by
 intro sz
 induction sz with
 | zero=>intro t h;cases t;simp at h
 | succ sz ih =>
  intro t dR ha;obtain ⟨n,l⟩:=t;rw [J1,aI] at ha;obtain ⟨ha,ho⟩:=ha
  have hex:∀ t∈l,oX t.n.kind=true->∃ a:E,a.ok=true/\er t=a.tree:=fun t ht hk=>toE _ t (aH _) (we ha ht) hk
  have eQ:∀ t∈l,t.n.kind=14->∃ l:List S,S.dA l=true/\er t=cB l:=fun t ht hk=>by
   have:=List.sizeOf_lt_of_mem ht;exact (ih t zgf (we ha ht)).2 hk
  have cU:∀ t∈l,jt t.n.kind=true->∃ a:S,a.ok=true/\er t=a.tree:=fun t ht hk=>by
   have:=List.sizeOf_lt_of_mem ht;exact (ih t zgf (we ha ht)).1 hk
  obtain ⟨k,at_,v,s,ks⟩:=n;simp only [cy,own,T.n,T.kids] at ho;refine ⟨fun hk=>?_,fun hk=>?_⟩
  ·have hk:(7:Int)<=k/\k<=13:=by
    simp only [jt,T.n,aI] at hk;exact ⟨nD hk.1,nD hk.2⟩
   obtain rfl | rfl | rfl | rfl | rfl | rfl | rfl:k=7\/k=8\/k=9\/k=10\/k=11\/k=12\/k=13:=by omega
   ·simp at ho;obtain ⟨D,X,h3,h4,h5⟩:=ho;subst X
    match l,h4 with
    | [t],_ =>
     obtain ⟨a,h6,h7⟩:=hex t zfu zfE;exact ⟨.set s a,by simp [S.ok,h3,h6],by rw [oo,S.tree,aZ,h7];rfl⟩
   ·simp at ho;obtain ⟨D,X,h3,h4,h5⟩:=ho;subst X
    match l,h4 with
    | [t,u],_ =>
     obtain ⟨a,h6,h7⟩:=hex t zfu zfE;obtain ⟨b,h8,h9⟩:=hex u zfu zfY;exact ⟨.put s a b,by simp [S.ok,h3,h6,h8],by rw [oo,S.tree,aZ,aZ,h7,h9];rfl⟩
   ·simp at ho;obtain ⟨D,X,h3,h4,h5⟩:=ho;subst X h3
    rcases h4 with h4 | h4
    ·match l,h4 with
     | [t,u],_ =>
      obtain ⟨a,h6,h7⟩:=hex t zfu zfE;obtain ⟨b,h8,h9⟩:=eQ u zfu zfY;exact ⟨.if1 a b,by simp [S.ok,h6,h8],by rw [oo,S.tree,aZ,aZ,h7,h9];rfl⟩
    ·match l,h4 with
     | [t,u,w],_ =>
      obtain ⟨a,h6,h7⟩:=hex t zfu zfE;obtain ⟨b,h8,h9⟩:=eQ u zfu zfY;obtain ⟨c,oO,qP⟩:=eQ w zfu (by simpa using jV h5 2 w rfl);exact ⟨.if2 a b c,by simp [S.ok,h6,h8,oO],by rw [oo,S.tree,aZ,aZ,aZ,h7,h9,qP];rfl⟩
   ·simp at ho;obtain ⟨D,X,h3,h4,h5⟩:=ho;subst X h3
    match l,h4 with
    | [t,u],_ =>
     obtain ⟨a,h6,h7⟩:=hex t zfu zfE;obtain ⟨b,h8,h9⟩:=eQ u zfu zfY;exact ⟨.while_ a b,by simp [S.ok,h6,h8],by rw [oo,S.tree,aZ,aZ,h7,h9];rfl⟩
   ·simp at ho;obtain ⟨D,X,h3,h4,h5⟩:=ho;subst X h3
    match l,h4 with
    | [t],_ =>
     obtain ⟨a,h6,h7⟩:=hex t zfu zfE;exact ⟨.ret a,by simp [S.ok,h6],by rw [oo,S.tree,aZ,h7];rfl⟩
   ·simp at ho;obtain ⟨D,X,h3,h4,h5⟩:=ho;subst X h3
    match l,h4 with
    | [t],_ =>
     obtain ⟨a,h6,h7⟩:=hex t zfu zfE;exact ⟨.do_ a,by simp [S.ok,h6],by rw [oo,S.tree,aZ,h7];rfl⟩
   ·simp at ho;obtain ⟨D,X,h3,h4,h5⟩:=ho;subst X
    match l,h4 with
    | [t],_ =>
     obtain ⟨a,h6,h7⟩:=hex t zfu zfE;exact ⟨.var s a,by simp [S.ok,h3,h6],by rw [oo,S.tree,aZ,h7];rfl⟩
  ·simp only [T.n] at hk;subst hk;simp at ho;obtain ⟨D,X,h3,h4⟩:=ho;subst X h4
   obtain ⟨es,h5,h6⟩:=IP l fun t ht=>cU t ht (h3 t ht)
   exact ⟨es,h5,by rw [oo,cB,h6]⟩
theorem toB {t:T} (h:dQ t=true) (hk:t.n.kind=14):∃ l:List S,S.dA l=true/\er t=cB l:=(toS _ t (aH _) h).2 hk
mutual
def wt:T->Nat
 | .mk n l=>30+n.s.length+fM l
def fM:List T->Nat
 | []=>0
 | t::l=>wt t+fM l
end
mutual
theorem UR:∀ t:T,wt (er t)=wt t
 | .mk n l=>by rw [er,wt,wt,LV l]
theorem LV:∀ l:List T,fM (aZ l)=fM l
 | []=>rfl
 | t::l=>by rw [aZ,fM,fM,UR t,LV l]
end
theorem Kd:∀ (k n:Nat),n < 10 ^ (k+1)->(gJ n).length<=k+1:=by
 intro k
 induction k with
 | zero=>intro n h;unfold gJ;rw [dif_pos aq];simp
 | succ k ih =>
  intro n h;unfold gJ;split
  ·simp
  ·rw [aO];have:=ih (n / 10) (by rw [Nat.pow_succ] at h;omega);simp;omega
theorem uS (lv k:Nat) (x:ah):(sC lv k x).length<=x.length+2:=by unfold sC;split <;> simp
mutual
theorem E.len:∀ a:E,a.ok=true->a.bF.length+4<=wt a.tree/\a.full.length+4<=wt a.tree
 | .num n,h=>by
  simp only [E.ok,aI] at h;have D:=nD h.1;have X:=nD h.2;have:=Kd 9 n.toNat aq;rw [E.bF,E.full,E.tree,wt];simp only [length_nil,fM];omega
 | .name s,h=>by rw [E.bF,E.full,E.tree,wt];simp only [fM];omega
 | .at_ s a,h=>by
  simp only [E.ok,aI] at h;have:=E.len a h.2;exact zeM
 | .call s l,h=>by
  simp only [E.ok,aI] at h;have:=E.lens l h.2;rw [E.bF,E.full,E.tree,wt];exact zad
 | .un s a,h=>by
  simp only [E.ok,aI] at h;have:=E.len a h.2;have:=uS a.lv 9 a.bF;exact zeM
 | .bin s a b,h=>by
  simp only [E.ok,aI] at h;have:=E.len a h.1.2;have:=E.len b h.2;have:=uS a.lv (eS s) a.bF;have:=uS b.lv (eS s+1) b.bF;exact zeM
theorem E.lens:∀ l:List E,E.dA l=true->(cr (E.dy l)).length<=fM (E.trees l)/\(cr (E.uM l)).length<=fM (E.trees l)
 | [],_=>⟨aX _,aX _⟩
 | a::l,h=>by
  simp only [E.dA,aI] at h;have D:=E.len a h.1;have X:=E.lens l h.2;rw [E.dy,E.uM,E.trees,fM]
  have key:∀ (x:ah) (l:List ah),(cr (x::l)).length<=x.length+2+(cr l).length:=by
   intro x l
   cases l with
   | nil=>simp [cr]
   | cons y l=>simp [cr];omega
  have:=key a.bF (E.dy l);have:=key a.full (E.uM l);omega
end
mutual
theorem S.len (x:E->ah) (hx:∀ a:E,a.ok=true->(x a).length+4<=wt a.tree):∀ s:S,s.ok=true->(s.bF x).length+4<=wt s.tree
 | .set s a,h=>by
  simp only [S.ok,aI] at h;have:=hx a h.2;exact zc6
 | .put s a b,h=>by
  simp only [S.ok,aI] at h;have:=hx a h.2.1;have:=hx b h.2.2;exact zc6
 | .if1 c b,h=>by
  exact zbM
 | .if2 c b b2,h=>by
  simp only [S.ok,aI] at h;have:=hx c h.1;have:=S.lens x hx b h.2.1 [123,32];have:=S.lens x hx b2 h.2.2 [123,32];rw [S.bF,S.tree,wt];simp only [fM,wt,aO,length_cons,length_nil] at *;omega
 | .while_ c b,h=>by
  exact zbM
 | .ret a,h=>by
  simp only [S.ok] at h;have:=hx a h;exact zc6
 | .do_ a,h=>by
  simp only [S.ok] at h;have:=hx a h;exact zc6
 | .var s a,h=>by
  simp only [S.ok,aI] at h;have:=hx a h.2;exact zc6
theorem S.lens (x:E->ah) (hx:∀ a:E,a.ok=true->(x a).length+4<=wt a.tree):∀ l:List S,S.dA l=true->∀ acc:ah,(S.dy x acc l).length<=acc.length+fM (S.trees l)
 | [],_,acc=>by rw [S.dy];omega
 | a::l,h,acc=>by
  simp only [S.dA,aI] at h;have D:=S.len x hx a h.1;have X:=S.lens x hx l h.2 ((acc++a.bF x)++[32]);rw [S.dy,S.trees,fM];simp only [aO,length_cons,length_nil] at X;omega
end
theorem uR (x:E->ah) (hx:∀ a:E,a.ok=true->(x a).length+4<=wt a.tree) {l:List S} (h:S.dA l=true):(gA x l).length<=wt (cB l):=by
 have:=S.lens x hx l h [123,32];unfold gA cB;rw [wt];simp only [aO,length_cons,length_nil] at *;omega
end Go.Xp
namespace Go.Im
open Go.Xp Go.Sp
def sN (g:Nat->Option (T × Nat)):List Int->Nat->List T->Option (List T × Nat)
 | [],next,acc=>some (acc,next)
 | k::r,next,acc=>if k=(next:Int) then match g next with
  | none=>none
  | some (t,e)=>sN g r e (acc++[t])
  else none
def rP (nodes:List Nd):Nat->Nat->Option (T × Nat)
 | 0,_=>none
 | f+1,a=>match nodes[a]? with
  | none=>none
  | some n=>match sN (rP nodes f) n.kids (a+1) [] with
   | none=>none
   | some (l,e)=>if n.at_ < 0 then none else some (.mk n l,e)
def tr (nodes:List Nd) (a:Nat):Option (T × Nat):=rP nodes (nodes.length+1) a
theorem I0 {nodes:List Nd} {g:Nat->Option (T × Nat)} (hg:∀ a t e,g a=some (t,e)->a < e/\e<=nodes.length/\e=a+bc t/\(nodes.take e).drop a=iO a t) :
  ∀ (ks:List Int) (next:Nat) (acc l:List T) (e:Nat),next<=nodes.length->sN g ks next acc=some (l,e)->∃ l',l=acc++l'/\e=next+aD l'/\e<=nodes.length/\ks=bE next l'/\(nodes.take e).drop next=dX next l'
 | [],next,acc,l,e,hn,h=>by
  rw [sN] at h;cases h;exact ⟨[],by simp,by simp [aD],hn,rfl,by rw [dX];exact gx (by rw [kA,gy];omega)⟩
 | k::r,next,acc,l,e,hn,h=>by
  rw [sN] at h;split at h
  ·rename_i hk
   cases hq:g next with
   | none=>rw [hq] at h;cases h
   | some x =>
    obtain ⟨t,e1⟩:=x;rw [hq] at h;simp only at h;obtain ⟨a1,a2,a3,a4⟩:=hg _ _ _ hq;obtain ⟨l',b1,b2,b3,b4,b5⟩:=I0 hg r e1 (acc++[t]) l e a2 h;refine ⟨t::l',by rw [b1];simp,by rw [aD];omega,b3,by rw [bE,<-a3,<-b4,hk],?_⟩;rw [dX,<-a3,<-a4,<-b5]
    have he:e1<=e:=by omega
    have D:(nodes.take e).take e1=nodes.take e1:=by rw [List.take_take,Nat.min_eq_left he]
    have X:(nodes.take e).drop next=((nodes.take e).take e1).drop next++(nodes.take e).drop e1:=by
     have h3:nodes.take e=(nodes.take e).take e1++(nodes.take e).drop e1:=(take_append_drop _ _).symm
     have h4:((nodes.take e).take e1).length=e1:=by rw [gy,gy];omega
     rw [h3,List.drop_append_of_le_length (by rw [h4];omega)];rw [<-h3]
    rw [X,D]
  ·cases h
theorem CE {nodes:List Nd}:∀ (f a:Nat) (t:T) (e:Nat),rP nodes f a=some (t,e)->a < e/\e<=nodes.length/\e=a+bc t/\(nodes.take e).drop a=iO a t
 | 0,a,t,e,h=>by cases h
 | f+1,a,t,e,h=>by
  rw [rP] at h
  cases hn:nodes[a]? with
  | none=>exact zdL
  | some n =>
   rw [hn] at h;simp only at h;have au:=(bu hn).1
   cases hk:sN (rP nodes f) n.kids (a+1) [] with
   | none=>rw [hk] at h;cases h
   | some x =>
    obtain ⟨l,e1⟩:=x;rw [hk] at h;simp only at h;split at h
    ·cases h
    ·cases h;obtain ⟨l',b1,b2,b3,b4,b5⟩:=I0 (CE f) n.kids (a+1) [] l e au hk
     have:l'=l:=by rw [b1];rfl
     subst this;refine ⟨by omega,b3,by rw [bc];omega,?_⟩;rw [iO,<-b4,<-b5]
     have D:(nodes.take e)[a]?=some n:=by rw [getElem?_take,ae aq];exact hn
     obtain ⟨X,h3⟩:=bu D;rw [oG X,h3]
def kC (nodes:List Nd):List Fn->Nat->List T->Option (List T × Nat)
 | [],next,acc=>some (acc,next)
 | f::r,next,acc=>match tr nodes next with
  | none=>none
  | some (t,e)=>if f.body=(next:Int) then kC nodes r e (acc++[t]) else none
def dS (k:Int) (n:Nat):Bool :=
 if k=1\/k=2 then ((n:Int)==0)
 else if k=4\/k=14 then true
 else if k=3\/k=5\/k=7\/k=11\/k=12\/k=13 then ((n:Int)==1)
 else if k=6\/k=8\/k=10 then ((n:Int)==2)
 else if k=9 then ((n:Int)==2) || ((n:Int)==3)
 else false
mutual
def ji:T->Bool
 | .mk n l=>dS n.kind l.length&&Cr l
def Cr:List T->Bool
 | []=>true
 | t::r=>ji t&&Cr r
end
theorem Am (t:T):ji t=(dS t.n.kind t.kids.length&&Cr t.kids):=by cases t;rw [ji];rfl
theorem vG (l:List T):Cr l=l.all ji:=by
 induction l with
 | nil=>rfl
 | cons t l ih=>rw [Cr,ih];rfl
mutual
def fi (nodes:List Nd):Nat->T->Prop
 | a,.mk n l=>nodes[a]?=some n/\n.kids=bE (a+1) l/\eg nodes (a+1) l
def eg (nodes:List Nd):Nat->List T->Prop
 | _,[]=>True
 | a,t::r=>fi nodes a t/\eg nodes (a+bc t) r
end
mutual
def zC:T->Prop
 | .mk n l=>0<=n.at_/\om l
def om:List T->Prop
 | []=>True
 | t::r=>zC t/\om r
end
theorem lO (t:T):1<=bc t:=by rw [fa];omega
mutual
theorem fi.le {nodes:List Nd}:∀ (t:T) (a:Nat),fi nodes a t->a+bc t<=nodes.length
 | .mk n l,a,h=>by
  rw [fi] at h;have D:=(bu h.1).1;have:=eg.le l (a+1) h.2.2 D;rw [bc];omega
theorem eg.le {nodes:List Nd}:∀ (l:List T) (a:Nat),eg nodes a l->a<=nodes.length->a+aD l<=nodes.length
 | [],a,h,ha=>by rw [aD];exact ha
 | t::r,a,h,ha=>by
  rw [eg] at h;have D:=fi.le t a h.1;have:=eg.le r _ h.2 D;rw [aD];omega
end
theorem Kg {nodes:List Nd}:∀ (f:Nat),(∀ (a d:Nat) (e:Int),qC nodes f a d=some e->0<=e->∃ t,fi nodes a t/\e=((a+bc t:Nat):Int)) /\
  (∀ (ks:List Int) (next d:Nat) (e:Int),pM nodes f ks (next:Int) d=some e->0<=e->∃ l,eg nodes next l/\ks=bE next l/\e=((next+aD l:Nat):Int)):=by
 intro f
 induction f with
 | zero =>
  refine ⟨fun a d e h _=>by simp [qC] at h,fun ks next d e h _=>?_⟩
  cases ks with
  | nil=>rw [pM] at h;cases h;exact ⟨[],trivial,rfl,by simp [aD]⟩
  | cons k r=>simp [pM] at h
 | succ f ih =>
  refine ⟨fun a d e h he=>?_,fun ks next d e h he=>?_⟩
  ·rw [qC] at h;split at h
   ·cases h;omega
   ·cases hn:nodes[a]? with
    | none=>exact zdL
    | some n =>
     rw [hn] at h;simp only at h;rw [show ((a:Int)+1)=((a+1:Nat):Int) by omega] at h;obtain ⟨l,D,X,h3⟩:=ih.2 _ _ _ _ h he;exact ⟨.mk n l,by rw [fi];exact ⟨hn,X,D⟩,by rw [h3,bc];omega⟩
  ·cases ks with
   | nil=>rw [pM] at h;cases h;exact ⟨[],trivial,rfl,by simp [aD]⟩
   | cons k r =>
    rw [pM] at h;split at h
    ·rename_i hk;subst hk;rw [jR] at h
     cases hq:qC nodes f next (d+1) with
     | none=>rw [hq] at h;cases h
     | some e1 =>
      rw [hq] at h;simp only at h;split at h
      ·cases h;omega
      ·rename_i h0;obtain ⟨t,D,X⟩:=ih.1 _ _ _ hq aq;subst X;obtain ⟨l,h3,h4,h5⟩:=ih.2 _ _ _ _ h he;refine ⟨t::l,by rw [eg];exact ⟨D,h3⟩,by rw [bE,<-h4],by rw [h5,aD];omega⟩
    ·cases h;omega
theorem yd {nodes:List Nd}:∀ (f:Nat),(∀ (t:T) (a:Nat),fi nodes a t->2 * bc t<=f->sub nodes f a=some t) /\
  (∀ (l:List T) (a:Nat) (acc:List T),eg nodes a l->2 * aD l+1<=f->qG nodes f (bE a l) acc=some (acc++l)):=by
 intro f
 induction f with
 | zero =>
  exact ⟨fun t a _ h=>by have:=lO t;omega,fun l a acc _ h=>by omega⟩
 | succ f ih =>
  refine ⟨fun t a hs h=>?_,fun l a acc hs h=>?_⟩
  ·obtain ⟨n,l⟩:=t;rw [fi] at hs;rw [bc] at h;rw [sub,hs.1];simp only;rw [hs.2.1,ih.2 l (a+1) [] hs.2.2 aq];rfl
  ·cases l with
   | nil=>rw [bE,qG];simp
   | cons t l =>
    rw [eg] at hs;rw [aD] at h;have:=lO t;rw [bE,qG,ab aq,jR,ih.1 t a hs.1 aq];simp only;rw [ih.2 l _ _ hs.2 aq];simp
theorem Y0 {nodes:List Nd}:∀ (f:Nat) (t:T) (a:Nat),fi nodes a t->zC t->bc t<=f->rP nodes f a=some (t,a+bc t):=by
 intro f
 induction f with
 | zero=>intro t a _ _ h;exact zeB
 | succ f ih =>
  intro t a hs ha h;obtain ⟨n,l⟩:=t
  have key:∀ (l:List T) (a:Nat) (acc:List T),eg nodes a l->om l->aD l<=f->sN (rP nodes f) (bE a l) a acc=some (acc++l,a+aD l):=by
   intro l
   induction l with
   | nil=>intro a acc _ _ _;rw [bE,sN,aD];simp
   | cons t l ih2 =>
    intro a acc hs ha h;rw [eg] at hs;rw [om] at ha;rw [aD] at h;rw [bE,sN,ae rfl,ih t a hs.1 ha.1 aq];simp only;rw [ih2 _ _ hs.2 ha.2 aq,aD];simp [iy]
  rw [fi] at hs;rw [zC] at ha;rw [bc] at h;rw [rP,hs.1];simp only;rw [hs.2.1,key l (a+1) [] hs.2.2 ha.2 aq];simp only;rw [ab aq,bc];simp only [nil_append,Option.some.injEq,Prod.mk.injEq,true_and];omega
theorem YS {nodes:List Nd}:∀ (f:Nat) (t:T) (a e:Nat),rP nodes f a=some (t,e)->fi nodes a t/\e=a+bc t/\zC t:=by
 intro f
 induction f with
 | zero=>intro t a e h;cases h
 | succ f ih =>
  intro t a e h
  have key:∀ (ks:List Int) (next:Nat) (acc l:List T) (e:Nat),sN (rP nodes f) ks next acc=some (l,e)->∃ l',l=acc++l'/\eg nodes next l'/\ks=bE next l'/\e=next+aD l'/\om l':=by
   intro ks
   induction ks with
   | nil=>intro next acc l e h;rw [sN] at h;cases h;exact ⟨[],by simp,trivial,rfl,by simp [aD],trivial⟩
   | cons k r ih2 =>
    intro next acc l e h
    rw [sN] at h;split at h
    ·rename_i hk
     cases hq:rP nodes f next with
     | none=>rw [hq] at h;cases h
     | some x =>
      obtain ⟨t,e1⟩:=x;rw [hq] at h;simp only at h;obtain ⟨a1,a2,a3⟩:=ih _ _ _ hq;subst a2;obtain ⟨l',b1,b2,b3,b4,b5⟩:=ih2 _ _ _ _ h;exact ⟨t::l',by rw [b1];simp,by rw [eg];exact ⟨a1,b2⟩,by rw [bE,hk,b3],by rw [b4,aD];omega,by rw [om];exact ⟨a3,b5⟩⟩
    ·cases h
  rw [rP] at h
  cases hn:nodes[a]? with
  | none=>exact zdL
  | some n =>
   rw [hn] at h;simp only at h
   cases hk:sN (rP nodes f) n.kids (a+1) [] with
   | none=>rw [hk] at h;cases h
   | some x =>
    obtain ⟨l,e1⟩:=x;rw [hk] at h;simp only at h;split at h
    ·cases h
    ·rename_i h0;cases h;obtain ⟨l',b1,b2,b3,b4,b5⟩:=key _ _ _ _ _ hk
     have:l'=l:=by rw [b1];rfl
     subst this;exact ⟨by rw [fi];exact ⟨hn,b3,b2⟩,by rw [b4,bc];omega,by rw [zC];exact ⟨by omega,b5⟩⟩
theorem Ve {nodes:List Nd} (hl:nodes.length<=800):∀ (f:Nat),(∀ (t:T) (a d:Nat),fi nodes a t->d<=a->2 * bc t<=f->qC nodes f a d=some ((a+bc t:Nat):Int)) /\
  (∀ (l:List T) (a d:Nat),eg nodes a l->d < a->2 * aD l+1<=f->pM nodes f (bE a l) (a:Int) d=some ((a+aD l:Nat):Int)):=by
 intro f
 induction f with
 | zero =>
  exact ⟨fun t a d _ _ h=>by have:=lO t;omega,fun l a d _ _ h=>by omega⟩
 | succ f ih =>
  refine ⟨fun t a d hs hd h=>?_,fun l a d hs hd h=>?_⟩
  ·obtain ⟨n,l⟩:=t;rw [fi] at hs;rw [bc] at h |-;have au:=(bu hs.1).1;rw [qC,ab aq,hs.1];simp only;rw [show ((a:Int)+1)=((a+1:Nat):Int) by omega,hs.2.1,ih.2 l (a+1) d hs.2.2 aq aq]
   congr 1;omega
  ·cases l with
   | nil=>rw [bE,pM,aD];simp
   | cons t l =>
    rw [eg] at hs;rw [aD] at h |-;have:=lO t;rw [bE,pM,ae rfl,jR,ih.1 t a (d+1) hs.1 aq aq];simp only;rw [ab aq,ih.2 l _ d hs.2 aq aq]
    congr 1;omega
theorem OC {nodes:List Nd}:∀ (f:Nat),(∀ (a d:Nat),2 * (nodes.length - a)+1<=f->∃ e,qC nodes f a d=some e/\(0<=e->(a:Int) < e/\a < nodes.length)) /\
  (∀ (ks:List Int) (next d:Nat),2 * (nodes.length - next)+2<=f->∃ e,pM nodes f ks (next:Int) d=some e/\(0<=e->(next:Int)<=e)):=by
 intro f
 induction f with
 | zero=>exact ⟨fun a d h=>by omega,fun ks next d h=>by omega⟩
 | succ f ih =>
  refine ⟨fun a d h=>?_,fun ks next d h=>?_⟩
  ·rw [qC];split
   ·exact zeY
   ·rename_i hc
    cases hn:nodes[a]? with
    | none=>rw [List.getElem?_eq_none_iff] at hn;omega
    | some n =>
     simp only;rw [show ((a:Int)+1)=((a+1:Nat):Int) by omega];obtain ⟨e,D,X⟩:=ih.2 n.kids (a+1) d aq;exact ⟨e,D,fun h=>⟨by have:=X h;omega,by omega⟩⟩
  ·cases ks with
   | nil=>rw [pM];exact ⟨_,rfl,fun _=>Int.le_refl _⟩
   | cons k r =>
    rw [pM];split
    ·rename_i hk;subst hk;rw [jR]
     obtain ⟨e,D,X⟩:=ih.1 next (d+1) aq
     rw [D];simp only;split
     ·exact zeY
     ·rename_i h0;have h3:=X aq;obtain ⟨m,rfl⟩:∃ m:Nat,e=(m:Int):=⟨e.toNat,by omega⟩;obtain ⟨e',h4,h5⟩:=ih.2 r m d aq;exact ⟨e',h4,fun h=>by have:=h5 h;omega⟩
    ·exact zeY
def gz (Q:Fn->T->Prop):List Fn->Nat->List T->Prop
 | [],_,[]=>True
 | f::r,a,t::l=>f.body=(a:Int)/\Q f t/\gz Q r (a+bc t) l
 | _,_,_=>False
theorem gz.len {Q:Fn->T->Prop}:∀ {fns:List Fn} {a:Nat} {l:List T},gz Q fns a l->fns.length=l.length
 | [],_,[],_=>rfl
 | f::r,a,t::l,h=>by rw [gz] at h;rw [length_cons,length_cons,gz.len h.2.2]
 | [],_,t::l,h=>by cases h
 | f::r,_,[],h=>by cases h
theorem gz.mono {Q R:Fn->T->Prop}:∀ {fns:List Fn} {a:Nat} {l:List T},gz Q fns a l->(∀ f t,f∈fns->t∈l->Q f t->R f t)->gz R fns a l
 | [],_,[],_,_=>trivial
 | f::r,a,t::l,h,hq=>by
  rw [gz] at h |-;exact ⟨h.1,hq _ _ mem_cons_self mem_cons_self h.2.1,gz.mono h.2.2 fun f t hf ht=>hq f t (dm _ hf) (dm _ ht)⟩
 | [],_,t::l,h,_=>by cases h
 | f::r,_,[],h,_=>by cases h
theorem gz.at_ {Q:Fn->T->Prop}:∀ {fns:List Fn} {a:Nat} {l:List T},gz Q fns a l->∀ (i:Nat) f t,fns[i]?=some f->l[i]?=some t->f.body=((a+aD (l.take i):Nat):Int)/\Q f t
 | [],_,[],_,i,f,t,D,X=>by simp at D
 | f::r,a,t::l,h,i,f',t',D,X=>by
  rw [gz] at h
  cases i with
  | zero=>cases D;cases X;rw [take_zero,aD];exact ⟨h.1,h.2.1⟩
  | succ i =>
   obtain ⟨k1,k2⟩:=gz.at_ h.2.2 i f' t' zfD zfM;exact ⟨by rw [k1,take_succ_cons,aD];omega,k2⟩
 | [],_,t::l,h,_,_,_,_,_=>by cases h
 | f::r,_,[],h,_,_,_,_,_=>by cases h
structure Rf (f:Fn) (t:T):Prop where
 name:bN f.name=true
 params:de f.params=true
 kind:t.n.kind=14
 all:dQ t=true
theorem BD {nodes:List Nd}:∀ (fns:List Fn) (next:Nat) (e:Int),iC nodes fns (next:Int)=some (some e)->∃ l,eg nodes next l/\gz Rf fns next l/\e=((next+aD l:Nat):Int)
 | [],next,e,h=>by rw [iC] at h;cases h;exact ⟨[],trivial,trivial,by simp [aD]⟩
 | f::r,next,e,h=>by
  rw [iC,jR] at h
  cases hn:qC nodes (fN nodes) next 0 with
  | none=>exact zdL
  | some e1 =>
   rw [hn] at h;simp only at h;split at h
   ·cases h
   ·rename_i hc;split at h
    ·cases h
    ·rename_i hp;obtain ⟨t,D,X⟩:=(Kg _).1 _ _ _ hn aq;have hle:=fi.le t _ D;rw [(yd _).1 t next D zfW] at h;simp only at h;split at h
     ·cases h
     ·rename_i hk;subst X;obtain ⟨l,k1,k2,k3⟩:=BD r _ e h;refine ⟨t::l,by rw [eg];exact ⟨D,k1⟩,?_,by rw [k3,aD];omega⟩;rw [gz];refine ⟨by omega,⟨?_,?_,?_,?_⟩,k2⟩
      ·cases hq:bN f.name with
       | true=>rfl
       | false=>exact absurd (.inr (.inl hq)) hc
      ·simpa using hp
      ·exact Decidable.byContradiction fun hq=>hk (.inl hq)
      ·cases hq:dQ t with
       | true=>rfl
       | false=>exact absurd (.inr hq) hk
theorem BC {nodes:List Nd} (hl:nodes.length<=800):∀ (fns:List Fn) (next:Nat) (l:List T),eg nodes next l->gz Rf fns next l->iC nodes fns (next:Int)=some (some ((next+aD l:Nat):Int))
 | [],next,[],_,_=>by rw [iC,aD];rfl
 | f::r,next,t::l,h,hf=>by
  rw [eg] at h;rw [gz] at hf;have hle:=fi.le t _ h.1;rw [iC,jR,(Ve hl _).1 t next 0 h.1 (aX _) zfW];simp only;rw [ab (by rw [hf.2.1.name];rintro (h | h | h);exact h hf.1;cases h;omega),ab (by rw [hf.2.1.params];decide),(yd _).1 t next h.1 zfW];simp only;rw [ab (by rw [hf.2.1.all];rintro (h | h);exact h hf.2.1.kind;cases h),BC hl r _ l h.2 hf.2.2,aD]
  congr 2;omega
 | [],_,t::l,_,h=>by cases h
 | f::r,_,[],_,h=>by cases h
theorem zh {nodes:List Nd}:∀ (fns:List Fn) (next:Nat),∃ r,iC nodes fns (next:Int)=some r
 | [],next=>⟨_,by rw [iC]⟩
 | f::r,next=>by
  obtain ⟨e,D,X⟩:=(OC (nodes:=nodes) (fN nodes)).1 next 0 zfW
  rw [iC,jR,D];simp only;split
  ·exact zeC
  ·rename_i hc;split
   ·exact zeC
   ·obtain ⟨t,k1,k2⟩:=(Kg _).1 _ _ _ D aq;have hle:=fi.le t _ k1;rw [(yd _).1 t next k1 zfW];simp only;split
    ·exact zeC
    ·rw [k2];exact zh r _
theorem Ny (p:Src):∃ b,qp p=some b:=by
 unfold qp;split
 ·exact zeC
 ·split
  ·exact zeC
  ·obtain ⟨r,h⟩:=zh (nodes:=p.nodes) p.fns 0;rw [show ((0:Nat):Int)=0 from rfl] at h;rw [h]
   cases r <;> exact ⟨_,rfl⟩
structure il (p:Src) (l:List T):Prop where
 globals:de p.globals=true
 arrays:p.arrays.all qB=true
 st:eg p.nodes 0 l
 fns:gz Rf p.fns 0 l
 len:aD l=p.nodes.length
 few:p.nodes.length<=800
theorem Wb {p:Src} (h:qp p=some true):∃ l,il p l:=by
 unfold qp at h;split at h
 ·cases h
 ·rename_i D;split at h
  ·cases h
  ·rename_i X;rw [show (0:Int)=((0:Nat):Int) from rfl] at h
   cases hf:iC p.nodes p.fns ((0:Nat):Int) with
   | none=>rw [hf] at h;cases h
   | some r =>
    rw [hf] at h
    cases r with
    | none=>cases h
    | some e =>
     obtain ⟨l,k1,k2,k3⟩:=BD _ _ _ hf;simp only [Option.some.injEq,aI,beq_iff_eq,decide_eq_true_eq] at h;exact ⟨l,by simpa using D,by simpa using X,k1,k2,by omega,by omega⟩
theorem il.qp {p:Src} {l:List T} (h:il p l):qp p=some true:=by
 unfold Go.Sp.qp;rw [ab (by rw [h.globals];decide),ab (by rw [h.arrays];decide),show (0:Int)=((0:Nat):Int) from rfl,BC h.few _ _ _ h.st h.fns];simp only [Option.some.injEq,aI,beq_iff_eq,decide_eq_true_eq];have:=h.len;have:=h.few;omega
theorem D7 {nodes:List Nd}:∀ (fns:List Fn) (next:Nat) (acc l:List T) (e:Nat),kC nodes fns next acc=some (l,e)->∃ l',l=acc++l'/\eg nodes next l'/\gz (fun _ _=>True) fns next l'/\e=next+aD l'/\om l'
 | [],next,acc,l,e,h=>by rw [kC] at h;cases h;exact ⟨[],by simp,trivial,trivial,by simp [aD],trivial⟩
 | f::r,next,acc,l,e,h=>by
  rw [kC] at h
  cases hq:tr nodes next with
  | none=>rw [hq] at h;cases h
  | some x =>
   obtain ⟨t,e1⟩:=x;rw [hq] at h;simp only at h;split at h
   ·rename_i hb;obtain ⟨a1,a2,a3⟩:=YS _ _ _ _ hq;subst a2;obtain ⟨l',b1,b2,b3,b4,b5⟩:=D7 r _ _ _ _ h;exact ⟨t::l',by rw [b1];simp,by rw [eg];exact ⟨a1,b2⟩,by rw [gz];exact ⟨hb,trivial,b3⟩,by rw [b4,aD];omega,by rw [om];exact ⟨a3,b5⟩⟩
   ·cases h
theorem J7 {nodes:List Nd} {Q:Fn->T->Prop}:∀ (fns:List Fn) (next:Nat) (acc l:List T),eg nodes next l->gz Q fns next l->om l->kC nodes fns next acc=some (acc++l,next+aD l)
 | [],next,acc,[],_,_,_=>by rw [kC,aD];simp
 | f::r,next,acc,t::l,h,hf,ha=>by
  rw [eg] at h;rw [gz] at hf;rw [om] at ha;have hle:=fi.le t _ h.1;rw [kC,tr,Y0 _ t next h.1 ha.1 aq];simp only;rw [ae hf.1,J7 r _ _ l h.2 hf.2.2 ha.2,aD];simp [iy]
 | [],_,_,t::l,_,h,_=>by cases h
 | f::r,_,_,[],_,h,_=>by cases h
mutual
theorem fi.fl {nodes:List Nd}:∀ (t:T) (a:Nat),fi nodes a t->(nodes.take (a+bc t)).drop a=iO a t
 | .mk n l,a,h=>by
  have hle:=fi.le _ _ h;rw [fi] at h;rw [bc] at hle;have D:=eg.fl l (a+1) h.2.2 (by have:=(bu h.1).1;omega);rw [iO,<-h.2.1,<-D,bc,show a+(aD l+1)=a+1+aD l by omega]
  have X:(nodes.take (a+1+aD l))[a]?=some n:=by rw [getElem?_take,ae aq];exact h.1
  obtain ⟨h3,h4⟩:=bu X;rw [oG h3,h4]
theorem eg.fl {nodes:List Nd}:∀ (l:List T) (a:Nat),eg nodes a l->a<=nodes.length->(nodes.take (a+aD l)).drop a=dX a l
 | [],a,h,ha=>by
  rw [dX];exact gx (by rw [aD,kA,gy];omega)
 | t::r,a,h,ha=>by
  rw [eg] at h;have hle:=fi.le _ _ h.1;have D:=fi.fl t a h.1;have X:=eg.fl r (a+bc t) h.2 hle;have Cd:=eg.le r _ h.2 hle;rw [dX,<-D,<-X,aD,show a+(bc t+aD r)=a+bc t+aD r by omega]
  have h3:nodes.take (a+bc t)=(nodes.take (a+bc t+aD r)).take (a+bc t):=by rw [List.take_take,Nat.min_eq_left aq]
  rw [h3];generalize hm:nodes.take (a+bc t+aD r)=m
  have dK:m.length=a+bc t+aD r:=by rw [<-hm,gy];omega
  rw [<-List.drop_append_of_le_length zfQ,take_append_drop]
end
theorem eg.all {nodes:List Nd} {l:List T} (h:eg nodes 0 l) (hl:aD l=nodes.length):nodes=dX 0 l:=by
 have:=eg.fl l 0 h (aX _);rw [ed,hl,di,List.drop_zero] at this;exact this
def rb (n:Int):ah:=if n < 0 then 45::gJ n.natAbs else gJ n.toNat
def ui (s:ah):Int:=match levels.findIdx? (fun l=>l.contains s) with | some i=>(i:Int) | none => -1
def xq (b:Bool) (x:ah):ah:=if b=true then (40::x)++[41] else x
def ow (t:T) (least:Int):Bool:=(t.n.kind==6)&&decide (ui t.n.s < least)
def wQ (n:Nd) (l:List T) (x:List ah):ah :=
 if n.kind=1 then rb n.n
 else if n.kind=3 then ((n.s++[91])++x.getD 0 [])++[93]
 else if n.kind=4 then ((n.s++[40])++cr x)++[41]
 else if n.kind=5 then (n.s++[32])++(match l with | a::_=>xq (a.n.kind==6) (x.getD 0 []) | []=>[])
 else if n.kind=6 then (match l with
  | a::b::_=>(((xq (ow a (ui n.s)) (x.getD 0 [])++[32])++n.s)++[32])++xq (ow b (ui n.s+1)) (x.getD 1 [])
  | _=>[])
 else n.s
mutual
def dG:T->ah
 | .mk n l=>wQ n l (hY l)
def hY:List T->List ah
 | []=>[]
 | t::r=>dG t::hY r
end
theorem QH (t:T):dG t=wQ t.n t.kids (hY t.kids):=by cases t;rw [dG];rfl
theorem EV (l:List T):hY l=l.map dG:=by
 induction l with
 | nil=>rfl
 | cons t l ih=>rw [hY,ih];rfl
mutual
def my:T->Nat
 | .mk n l=>n.s.length+60+iK l
def iK:List T->Nat
 | []=>0
 | t::r=>my t+iK r
end
theorem qY (t:T):my t=t.n.s.length+60+iK t.kids:=by cases t;rw [my];rfl
theorem v7 {l:List T} {t:T} (h:t∈l):my t<=iK l:=by
 induction l with
 | nil=>cases h
 | cons a l ih =>
  rw [iK]
  rcases eF h with rfl | h
  ·omega
  ·have:=ih h;omega
theorem SE (l:List T):l.length * 60<=iK l:=by
 induction l with
 | nil=>simp
 | cons t l ih=>rw [iK,qY,length_cons];omega
theorem Fs {n:Nat} (h:n < 100000000000000000000):(gJ n).length<=20:=Kd 19 n zfx
theorem Al {n:Int} (h : -9223372036854775808<=n/\n<=9223372036854775807):(rb n).length<=21:=by
 unfold rb;split
 ·have:=Fs (n:=n.natAbs) aq;exact zeb
 ·have:=Fs (n:=n.toNat) aq;omega
theorem AN (b:Bool) (x:ah):(xq b x).length<=x.length+2:=by
 unfold xq;split <;> simp
theorem Hj:∀ (r:List ah),(r.flatMap fun y=>44::32::y).length=(r.map fun y=>y.length+2).sum
 | []=>rfl
 | z::r=>by
  have:=Hj r;simp only [flatMap_cons,aO,List.map_cons,sum_cons,length_cons] at this |-;omega
theorem Co:∀ (x:List ah),(cr x).length<=(x.map fun y=>y.length+2).sum
 | []=>by simp [cr]
 | y::r=>by
  have h:=Hj r;rw [List.map_cons,sum_cons,cr,aO,h];omega
mutual
def tg:T->Prop
 | .mk n l=>(-9223372036854775808<=n.n/\n.n<=9223372036854775807)/\tK l
def tK:List T->Prop
 | []=>True
 | t::r=>tg t/\tK r
end
theorem th (t:T):tg t↔(-9223372036854775808<=t.n.n/\t.n.n<=9223372036854775807)/\tK t.kids:=by cases t;rw [tg];exact Iff.rfl
theorem lJ {l:List T} {t:T} (h:tK l) (ht:t∈l):tg t:=by
 induction l with
 | nil=>cases ht
 | cons a l ih =>
  rw [tK] at h
  rcases eF ht with rfl | ht
  ·exact h.1
  ·exact ih h.2 ht
theorem yg:∀ (N:Nat) (t:T),bc t<=N->tg t->(dG t).length+4<=my t:=by
 intro N
 induction N with
 | zero=>intro t h;rw [fa] at h;omega
 | succ N ih =>
  intro t hN hn;rw [fa] at hN;rw [th] at hn
  have hk:∀ a∈t.kids,(dG a).length+4<=my a:=fun a ha=>by
   refine ih a ?_ (lJ hn.2 ha)
   have:∀ (l:List T),a∈l->bc a<=aD l:=by
    intro l
    induction l with
    | nil=>intro h;cases h
    | cons b l ih2 =>
     intro h;rw [aD]
     rcases eF h with rfl | h
     ·omega
     ·have:=ih2 h;omega
   have:=this _ ha;omega
  have acD:((hY t.kids).map fun y=>y.length+2).sum<=iK t.kids:=by
   have:∀ (l:List T),(∀ a∈l,(dG a).length+4<=my a)->((hY l).map fun y=>y.length+2).sum<=iK l:=by
    intro l
    induction l with
    | nil=>intro _;simp [hY]
    | cons a l ih2 =>
     intro h;have D:=h a (mem_cons_self)
     have X:=ih2 fun b hb=>h b (dm _ hb)
     rw [hY,iK,List.map_cons,sum_cons];omega
   exact this _ hk
  have h0:((hY t.kids).getD 0 []).length<=iK t.kids:=by
   cases hl:t.kids with
   | nil=>simp [hY]
   | cons a r =>
    have:=hk a (by rw [hl];exact mem_cons_self);rw [hY,iK];simp;omega
  have h01:∀ a b r,t.kids=a::b::r->((hY t.kids).getD 0 []).length+((hY t.kids).getD 1 []).length+8<=iK t.kids:=fun a b r hl=>by
   have D:=hk a (by rw [hl];exact mem_cons_self);have X:=hk b (by rw [hl];exact dm _ mem_cons_self);rw [hl,hY,hY,iK,iK];simp;omega
  rw [QH,qY];unfold wQ;split
  ·have:=Al hn.1;omega
  ·split
   ·exact zad
   ·split
    ·have:=Co (hY t.kids);exact zad
    ·split
     ·cases hl:t.kids with
      | nil=>simp <;> omega
      | cons a r =>
       simp only [aO,length_cons,length_nil];have:=AN (a.n.kind==6) ((hY (a::r)).getD 0 []);rw [hl] at h0;omega
     ·split
      ·match hl:t.kids with
       | []=>simp <;> omega
       | [a]=>simp <;> omega
       | a::b::r =>
        have D:=h01 a b r hl;rw [hl] at D;have X:=AN (ow a (ui t.n.s)) ((hY (a::b::r)).getD 0 []);have h3:=AN (ow b (ui t.n.s+1)) ((hY (a::b::r)).getD 1 []);exact zad
      ·omega
def zy (own:ah) (n:Nd) (k:Nat) (x b:List ah):ah :=
 if n.kind=13 then ((([118,97,114,32]++n.s)++[32,61,32])++x.getD 0 [])++[59]
 else if n.kind=7 then ((n.s++[32,61,32])++x.getD 0 [])++[59]
 else if n.kind=8 then ((((n.s++[91])++x.getD 0 [])++[93,32,61,32])++x.getD 1 [])++[59]
 else if n.kind=9 then (if k=3 then ((([105,102,32,40]++x.getD 0 [])++[41,32])++b.getD 1 [])++([32,101,108,115,101,32]++b.getD 2 []) else (([105,102,32,40]++x.getD 0 [])++[41,32])++b.getD 1 [])
 else if n.kind=10 then (([119,104,105,108,101,32,40]++x.getD 0 [])++[41,32])++b.getD 1 []
 else if n.kind=11 then ([114,101,116,117,114,110,32]++x.getD 0 [])++[59]
 else if n.kind=12 then x.getD 0 []++[59]
 else own
section
variable (tx:T->ah) (inl:List ah->Nat->ah)
mutual
def mb:Nat->T->ah
 | d,.mk n l=>zy (tx (.mk n l)) n l.length (l.map tx) (rW d l)
def rW:Nat->List T->List ah
 | _,[]=>[]
 | d,t::r=>py d t::rW d r
def py:Nat->T->ah
 | d,.mk n l=>inl (zx (d+1) l) d
def zx:Nat->List T->List ah
 | _,[]=>[]
 | d,t::r=>mb d t::zx d r
end
end
theorem QC (tx:T->ah) (inl:List ah->Nat->ah) (d:Nat) (t:T):mb tx inl d t=zy (tx t) t.n t.kids.length (t.kids.map tx) (rW tx inl d t.kids):=by cases t;rw [mb];rfl
theorem N5 (tx:T->ah) (inl:List ah->Nat->ah) (d:Nat) (t:T):py tx inl d t=inl (zx tx inl (d+1) t.kids) d:=by cases t;rw [py];rfl
theorem J6 (tx:T->ah) (inl:List ah->Nat->ah) (d:Nat) (l:List T):rW tx inl d l=l.map (py tx inl d):=by
 induction l with
 | nil=>rfl
 | cons t l ih=>rw [rW,ih];rfl
theorem LI (tx:T->ah) (inl:List ah->Nat->ah) (d:Nat) (l:List T):zx tx inl d l=l.map (mb tx inl d):=by
 induction l with
 | nil=>rfl
 | cons t l ih=>rw [zx,ih];rfl
def uv (acc:ah) (l:List ah):ah:=l.foldl (fun acc s=>acc++(s++[32])) acc
def gK (l:List ah) (d:Nat):ah:=uv [123,32] l++[125]
def mA:List ah->Nat
 | []=>0
 | s::l=>s.length+1+mA l
theorem vg (l:List ah):∀ acc,(uv acc l).length=acc.length+mA l:=by
 induction l with
 | nil=>intro acc;simp [uv,mA]
 | cons s l ih =>
  intro acc;have:=ih (acc++(s++[32]));simp only [uv,foldl_cons,mA,aO,length_cons,length_nil] at this |-;omega
theorem IQ (a b:List ah):mA (a++b)=mA a+mA b:=by
 induction a with
 | nil=>simp [mA]
 | cons s a ih=>simp only [cons_append,mA,ih];omega
theorem QF (l:List ah) (k:Nat):mA (l.take k)<=mA l:=by
 have:mA l=mA (l.take k)+mA (l.drop k):=by rw [<-IQ,take_append_drop]
 omega
theorem Od (acc:ah) (l:List ah) (s:ah):uv acc (l++[s])=uv acc l++(s++[32]):=by simp [uv]
theorem Wd {l:List ah} {s:ah} (h:s∈l):s.length<=mA l:=by
 induction l with
 | nil=>cases h
 | cons a l ih =>
  rw [mA]
  rcases eF h with rfl | h
  ·omega
  ·have:=ih h;omega
theorem Sb {l:List ah} {d:Nat} {s:ah} (h:s∈l):s.length<=(gK l d).length:=by
 have D:=Wd h;have X:=vg l [123,32];unfold gK;rw [aO,X];omega
def g1 (s:ah):ah:=([105,110,116,32]++s)++[59,10]
def a1 (a:Ar):ah:=((([105,110,116,32]++a.name)++[91])++rb a.size)++[93,59,10]
def dH (tx:T->ah) (inl:List ah->Nat->ah) (x:Fn × T):ah:=((((([102,117,110,99,32]++x.1.name)++[40])++cr x.1.params)++[41,32])++py tx inl 0 x.2)++[10]
def dV {α:Type} (f:α->ah):ah->List α->ah
 | acc,[]=>acc
 | acc,x::l=>dV f (acc++f x) l
theorem zF {α:Type} (f:α->ah) (l:List α) (x:α):∀ acc,dV f acc (l++[x])=dV f acc l++f x:=by
 induction l with
 | nil=>intro acc;rfl
 | cons y l ih=>intro acc;simp only [cons_append,dV];exact ih _
theorem Rs {α:Type} (f:α->ah) (l k:List α):∀ acc,dV f acc (l++k)=dV f (dV f acc l) k:=by
 induction l with
 | nil=>intro acc;rfl
 | cons y l ih=>intro acc;simp only [cons_append,dV];exact ih _
theorem D9 {α:Type} (f:α->ah) (l:List α):∀ acc,acc.length<=(dV f acc l).length:=by
 induction l with
 | nil=>intro acc;exact aH _
 | cons y l ih=>intro acc;have:=ih (acc++f y);rw [dV];rw [aO] at this;omega
theorem zG {α:Type} (f:α->ah) (l:List α) (k:Nat) (acc:ah):(dV f acc (l.take k)).length<=(dV f acc l).length:=by
 have:dV f acc l=dV f (dV f acc (l.take k)) (l.drop k):=by rw [<-Rs,take_append_drop]
 rw [this];exact D9 f _ _
def po (tx:T->ah) (inl:List ah->Nat->ah) (p:Src) (trees:List T):ah:=dV (dH tx inl) (dV a1 (dV g1 [] p.globals) p.arrays) (p.fns.zip trees)
end Go.Im
namespace Go.Im
def gm {α:Type} (p:α->α->Bool):List α->List α->Bool
 | [],[]=>true
 | a::r,b::s=>p a b&&gm p r s
 | _,_=>false
theorem AU {α:Type} {p:α->α->Bool}:∀ {a b:List α},gm p a b=true->a.length=b.length
 | [],[],_=>rfl
 | a::r,b::s,h=>by rw [gm,aI] at h;rw [length_cons,length_cons,AU h.2]
 | [],b::s,h=>by cases h
 | a::r,[],h=>by cases h
theorem tW {α:Type} {p:α->α->Bool} {a b:List α} (h:a.length≠b.length):gm p a b=false:=by
 cases hc:gm p a b with
 | false=>rfl
 | true=>exact absurd (AU hc) h
theorem G9 {α:Type} {p:α->α->Bool}:∀ {a b:List α} {k:Nat} {x y:α},a[k]?=some x->b[k]?=some y->gm p a b=true->p x y=true
 | a::r,b::s,0,x,y,D,X,h=>by cases D;cases X;rw [gm,aI] at h;exact h.1
 | a::r,b::s,k+1,x,y,D,X,h=>by rw [gm,aI] at h;exact G9 zfD zfM h.2
 | [],_,k,x,y,D,X,h=>by simp at D
 | a::r,[],k,x,y,D,X,h=>by simp at X
theorem tX {α:Type} {p:α->α->Bool} {a b:List α} {k:Nat} {x y:α} (D:a[k]?=some x) (X:b[k]?=some y) (h:p x y=false):gm p a b=false:=by
 cases hc:gm p a b with
 | false=>rfl
 | true=>have:=G9 D X hc;rw [h] at this;cases this
theorem Kh {α:Type} {p:α->α->Bool}:∀ {a b:List α},a.length=b.length->(∀ (k:Nat) x y,a[k]?=some x->b[k]?=some y->p x y=true)->gm p a b=true
 | [],[],_,_=>rfl
 | a::r,b::s,hl,h=>by
  rw [gm,h 0 a b rfl rfl,Kh zfz fun k x y D X=>h (k+1) x y zfD zfM];rfl
 | [],b::s,hl,h=>by simp at hl
 | a::r,[],hl,h=>by simp at hl
def vj {α:Type} (p:α->α->Bool) (a b:List α) (k:Nat):Prop:=∀ j x y,j < k->a[j]?=some x->b[j]?=some y->p x y=true
theorem oa {α:Type} {p:α->α->Bool} {a b:List α} {k:Nat} {x y:α} (D:a[k]?=some x) (X:b[k]?=some y) (h:vj p a b k) (hp:p x y=true):vj p a b (k+1):=fun j u v hj h3 h4=>by
 by_cases he:j=k
 ·subst he;rw [D] at h3;rw [X] at h4;cases h3;cases h4;exact hp
 ·exact h j u v aq h3 h4
theorem pN {α:Type} {p:α->α->Bool} {a b:List α} (hl:a.length=b.length) (h:vj p a b a.length):gm p a b=true :=
 Kh hl fun k x y D X=>h k x y (bu D).1 D X
def tL (a b:Go.Sp.Fn):Bool:=((a.name==b.name)&&gm (fun x y=>x==y) a.params b.params)&&(a.body==b.body)
def mU (a b:Go.Xp.Nd):Bool:=(((a.kind==b.kind)&&(a.n==b.n))&&(a.s==b.s))&&gm (fun x y=>x==y) a.kids b.kids
def Bz (x y:Go.Xp.Ar):Bool:=(x.name==y.name)&&(x.size==y.size)
open Go.Xp Go.Sp
theorem Kl (l:List T):(aZ l).length=l.length:=by rw [uU,cj]
theorem zK (t:T):(er t).n=⟨t.n.kind,0,t.n.n,t.n.s,[]⟩:=by cases t;rw [er];rfl
theorem Vf (t:T):(er t).kids=aZ t.kids:=by cases t;rw [er];rfl
mutual
theorem yf:∀ t:T,bc (er t)=bc t
 | .mk n l=>by rw [er,bc,bc,ye l]
theorem ye:∀ l:List T,aD (aZ l)=aD l
 | []=>by rw [aZ]
 | t::r=>by rw [aZ,aD,aD,yf t,ye r]
end
theorem FT (m:Nat):∀ (l:List T) (i:Nat),bJ m i (aZ l)=bJ m i l
 | [],i=>by rw [aZ]
 | t::r,i=>by rw [aZ,bJ,bJ,FT m r (i+1),zK]
theorem Ge:∀ (l:List T),(aZ l).all (fun x=>jt x.n.kind)=l.all (fun x=>jt x.n.kind)
 | []=>by rw [aZ]
 | t::r=>by rw [aZ,all_cons,all_cons,Ge r,zK]
theorem YB (n:Nd) (k:Nat) (kd:Nat->Bool) (bl:Bool) (h:0<=n.at_) (h':own ⟨n.kind,0,n.n,n.s,[]⟩ k kd bl=true):own n k kd bl=true:=by
 unfold own at h' |-;rw [ab zfu] at h';rw [ab zfx];exact h'
mutual
theorem NZ:∀ t:T,dQ (er t)=true->zC t->dQ t=true
 | .mk n l,h,ha=>by
  rw [er,dQ,aI] at h;rw [zC] at ha;rw [dQ,aI];refine ⟨J3 l h.1 ha.2,?_⟩;have X:own ⟨n.kind,0,n.n,n.s,[]⟩ (aZ l).length (fun m=>bJ m 0 (aZ l)) ((aZ l).all fun x=>jt x.n.kind)=true:=h.2;rw [Kl,Ge] at X;simp only [FT] at X;exact YB n _ _ _ ha.1 X
theorem J3:∀ l:List T,cR (aZ l)=true->om l->cR l=true
 | [],_,_=>rfl
 | t::r,h,ha=>by
  rw [aZ,cR,aI] at h;rw [om] at ha;rw [cR,aI];exact ⟨NZ t h.1 ha.1,J3 r h.2 ha.2⟩
end
mutual
theorem NY:∀ t:T,dQ t=true->zC t
 | .mk n l,h=>by
  rw [dQ,aI] at h;rw [zC];refine ⟨?_,J2 l h.1⟩;have X:own n l.length (fun m=>bJ m 0 l) (l.all fun x=>jt x.n.kind)=true:=h.2
  by_cases h0:n.at_ < 0
  ·unfold own at X;rw [ae zf5] at X;cases X
  ·omega
theorem J2:∀ l:List T,cR l=true->om l
 | [],_=>trivial
 | t::r,h=>by
  rw [cR,aI] at h;rw [om];exact ⟨NY t h.1,J2 r h.2⟩
end
theorem mJ (a:E):oX a.tree.n.kind=true:=by cases a <;> rfl
mutual
theorem E.gX:∀ a:E,a.ok=true->dQ a.tree=true
 | .num n,h=>by
  simp only [E.ok,aI] at h;rw [E.tree,dQ,cR];simp [cy,own,T.n,T.kids];exact h
 | .name s,h=>by
  simp only [E.ok] at h;rw [E.tree,dQ,cR];simp [cy,own,T.n,T.kids,h]
 | .at_ s a,h=>by
  simp only [E.ok,aI] at h;have X:=E.gX a h.2;have h3:=mJ a;rw [E.tree,dQ,cR,cR,X];simp [cy,own,T.n,T.kids,h.1,bJ];exact h3
 | .call s l,h=>by
  simp only [E.ok,aI] at h;obtain ⟨X,h3⟩:=E.um l h.2;rw [E.tree,dQ,X];have:=h3 (E.trees l).length 0 aq;simp [cy,own,T.n,T.kids,h.1,this]
 | .un s a,h=>by
  simp only [E.ok,aI] at h;have X:=E.gX a h.2;have h3:=mJ a;rw [E.tree,dQ,cR,cR,X];simp [cy,own,T.n,T.kids,bJ];exact ⟨by simpa using h.1,h3⟩
 | .bin s a b,h=>by
  simp only [E.ok,aI] at h;have X:=E.gX a h.1.2;have h3:=mJ a;have h4:=E.gX b h.2;have h5:=mJ b;rw [E.tree,dQ,cR,cR,cR,X,h4];simp [cy,own,T.n,T.kids,bJ,h.1.1];exact ⟨h3,h5⟩
theorem E.um:∀ l:List E,E.dA l=true->cR (E.trees l)=true/\∀ m i,i+(E.trees l).length<=m->bJ m i (E.trees l)=true
 | [],_=>⟨rfl,fun m i _=>rfl⟩
 | a::l,h=>by
  simp only [E.dA,aI] at h;obtain ⟨X,h3⟩:=E.um l h.2;refine ⟨by rw [E.trees,cR,E.gX a h.1,X];rfl,fun m i hm=>?_⟩;rw [E.trees,length_cons] at hm;rw [E.trees,bJ,ae aq,mJ a,h3 m (i+1) aq];rfl
end
theorem YI (a:S):jt a.tree.n.kind=true:=by cases a <;> rfl
mutual
theorem S.gX:∀ a:S,a.ok=true->dQ a.tree=true
 | .set s a,h=>by
  exact zcg
 | .var s a,h=>by
  exact zcg
 | .ret a,h=>by
  exact zco
 | .do_ a,h=>by
  exact zco
 | .put s a b,h=>by
  simp only [S.ok,aI] at h;have X:=E.gX a h.2.1;have h3:=mJ a;have h4:=E.gX b h.2.2;have h5:=mJ b;rw [S.tree,dQ,cR,cR,cR,X,h4];simp [cy,own,T.n,T.kids,bJ,h.1];exact ⟨h3,h5⟩
 | .if1 c b,h=>by
  exact zbQ
 | .if2 c b b2,h=>by
  simp only [S.ok,aI] at h;have X:=E.gX c h.1;have h3:=mJ c;have h4:=S.xp b h.2.1;have h5:=S.xp b2 h.2.2;rw [S.tree,dQ,cR,cR,cR,cR,X,h4,h5];simp [cy,own,T.n,T.kids,bJ];exact h3
 | .while_ c b,h=>by
  exact zbQ
theorem S.xp:∀ l:List S,S.dA l=true->dQ (.mk ⟨14,0,0,[],[]⟩ (S.trees l))=true
 | l,h=>by
  obtain ⟨D,X⟩:=S.um l h;have h3:cy (.mk ⟨14,0,0,[],[]⟩ (S.trees l))=own ⟨14,0,0,[],[]⟩ (S.trees l).length (fun m=>bJ m 0 (S.trees l)) ((S.trees l).all fun x=>jt x.n.kind):=rfl;rw [dQ,D,h3,X];simp [own]
theorem S.um:∀ l:List S,S.dA l=true->cR (S.trees l)=true/\(S.trees l).all (fun x=>jt x.n.kind)=true
 | [],_=>⟨rfl,rfl⟩
 | a::l,h=>by
  simp only [S.dA,aI] at h;obtain ⟨D,X⟩:=S.um l h.2;exact ⟨by rw [S.trees,cR,S.gX a h.1,D];rfl,by rw [S.trees,all_cons,X,YI a];rfl⟩
end
theorem aae {n:Nd} {k:Nat} {kd:Nat->Bool} {bl:Bool} (h:own n k kd bl=true):dS n.kind k=true:=by
 have hc:n.kind=1\/n.kind=2\/n.kind=3\/n.kind=4\/n.kind=5\/n.kind=6\/n.kind=7\/n.kind=8\/n.kind=9\/n.kind=10\/n.kind=11\/n.kind=12\/n.kind=13\/n.kind=14\/(n.kind < 1\/14 < n.kind):=by omega
 unfold own at h
 by_cases h0:decide (n.at_ < 0)=true
 ·rw [ae h0] at h;cases h
 rw [ab h0] at h
 by_cases D:(n.kind != 1&&n.n != 0)=true
 ·rw [ae D] at h;cases h
 rw [ab D] at h;clear h0 D
 rcases hc with hk | hk | hk | hk | hk | hk | hk | hk | hk | hk | hk | hk | hk | hk | hk
 all_goals (first | (simp [hk] at h;simp [dS,hk];done) | (simp [hk] at h;simp [dS,hk];omega) | (simp [hk] at h;simp [dS,hk,h];done) | skip)
 ·exfalso
  have e1:(n.kind==1)=false:=by simp;omega
  have e2:(n.kind==2)=false:=by simp;omega
  have e3:(n.kind==3)=false:=by simp;omega
  have e4:(n.kind==4)=false:=by simp;omega
  have e5:(n.kind==5)=false:=by simp;omega
  have e6:(n.kind==6)=false:=by simp;omega
  have e7:(n.kind==7)=false:=by simp;omega
  have e8:(n.kind==8)=false:=by simp;omega
  have e9:(n.kind==9)=false:=by simp;omega
  have e10:(n.kind==10)=false:=by simp;omega
  have e11:(n.kind==11)=false:=by simp;omega
  have e12:(n.kind==12)=false:=by simp;omega
  have e13:(n.kind==13)=false:=by simp;omega
  have e14:(n.kind==14)=false:=by simp;omega
  rw [e1,e2,e3,e4,e5,e6,e7,e8,e9,e10,e11,e12,e13,e14] at h;simp at h
mutual
theorem Ts:∀ t:T,dQ t=true->ji t=true
 | .mk n l,h=>by
  rw [dQ,aI] at h;rw [ji,N0 l h.1,Bool.and_true];exact aae h.2
theorem N0:∀ l:List T,cR l=true->Cr l=true
 | [],_=>rfl
 | t::r,h=>by
  rw [cR,aI] at h;rw [Cr,Ts t h.1,N0 r h.2];rfl
end
theorem SG (t:T) (z:Int):ow (er t) z=ow t z:=by unfold ow;rw [zK]
theorem Wi (n:Nd) (l:List T) (x:List ah):wQ ⟨n.kind,0,n.n,n.s,[]⟩ (aZ l) x=wQ n l x:=by
 unfold wQ
 match l with
 | []=>rw [aZ]
 | [a]=>rw [aZ,aZ];simp only [zK]
 | a::b::r=>rw [aZ,aZ];simp only [zK,SG]
mutual
theorem QI:∀ t:T,dG (er t)=dG t
 | .mk n l=>by rw [er,dG,dG,EU l,Wi]
theorem EU:∀ l:List T,hY (aZ l)=hY l
 | []=>by rw [aZ]
 | t::r=>by rw [aZ,hY,hY,QI t,EU r]
end
mutual
theorem YP (inl:List ah->Nat->ah):∀ (t:T) (d:Nat),mb dG inl d (er t)=mb dG inl d t
 | .mk n l,d=>by
  have h:=QI (.mk n l);rw [er] at h |-;rw [mb,mb,h,J5 inl l d,Kl]
  have:(aZ l).map dG=l.map dG:=by rw [<-EV,<-EV,EU]
  rw [this];rfl
theorem J5 (inl:List ah->Nat->ah):∀ (l:List T) (d:Nat),rW dG inl d (aZ l)=rW dG inl d l
 | [],d=>by rw [aZ]
 | t::r,d=>by rw [aZ,rW,rW,N6 inl t d,J5 inl r d]
theorem N6 (inl:List ah->Nat->ah):∀ (t:T) (d:Nat),py dG inl d (er t)=py dG inl d t
 | .mk n l,d=>by rw [er,py,py,LH inl l (d+1)]
theorem LH (inl:List ah->Nat->ah):∀ (l:List T) (d:Nat),zx dG inl d (aZ l)=zx dG inl d l
 | [],d=>by rw [aZ]
 | t::r,d=>by rw [aZ,zx,zx,YP inl t d,LH inl r d]
end
theorem P7 {s:ah} (h:ia s=true):ui s=(eS s:Int):=by
 unfold ui eS
 cases hf:levels.findIdx? (fun l=>l.contains s) with
 | some i=>rfl
 | none =>
  rw [List.findIdx?_eq_none_iff] at hf;unfold ia at h;rw [pG] at h;obtain ⟨l,D,X⟩:=h;have:=hf l D;rw [X] at this;cases this
theorem Lg {a:E} (h:a.ok=true) (k:Nat) (hk:k<=9):ow a.tree (k:Int)=decide (a.lv < k):=by
 have key:∀ b:Bool,(false&&b)=decide (9 < k):=fun b=>by rw [Bool.false_and,decide_eq_false aq]
 cases a with
 | bin s x y =>
  simp only [E.ok,aI] at h;show (true&&decide (ui s < (k:Int)))=decide (eS s < k);rw [P7 h.1.1,Bool.true_and];exact decide_eq_decide.2 aq
 | num n=>exact key _
 | name n=>exact key _
 | at_ s a=>exact key _
 | call s l=>exact key _
 | un s a=>exact key _
theorem D8 (lv k:Nat) (x:ah):xq (decide (lv < k)) x=sC lv k x:=by
 unfold xq sC
 by_cases h:lv < k
 ·rw [ae zfx,ae h]
 ·rw [ab zfx,ab h]
theorem WE {a:E} (h:a.ok=true):(a.tree.n.kind==6)=decide (a.lv < 9):=by
 cases a with
 | bin s x y =>
  simp only [E.ok,aI] at h;have:=(rJ h.1.1).1;show true=decide (eS s < 9);exact (decide_eq_true this).symm
 | _=>rfl
mutual
theorem lg:∀ a:E,a.ok=true->dG a.tree=a.bF
 | .num n,h=>by
  simp only [E.ok,aI,decide_eq_true_eq] at h;rw [E.tree,dG,E.bF];unfold wQ rb;simp only [if_true];rw [ab aq]
 | .name s,h=>by
  rw [E.tree,dG,E.bF];simp [wQ]
 | .at_ s a,h=>by
  simp only [E.ok,aI] at h;have X:=lg a h.2;rw [E.tree,dG,hY,hY,X,E.bF];simp [wQ]
 | .call s l,h=>by
  simp only [E.ok,aI] at h;rw [E.tree,dG,LO l h.2,E.bF];simp [wQ]
 | .un s a,h=>by
  simp only [E.ok,aI] at h;have X:=lg a h.2;rw [E.tree,dG,hY,hY,X,E.bF,<-D8,<-WE h.2];simp [wQ]
 | .bin s a b,h=>by
  simp only [E.ok,aI] at h;have X:=lg a h.1.2;have h3:=lg b h.2;have hl:=(rJ h.1.1).1;have e1:=Lg h.1.2 (eS s) aq;have e2:=Lg h.2 (eS s+1) aq;rw [E.tree,dG,hY,hY,hY,X,h3,E.bF,<-D8,<-D8,<-e1,<-e2];unfold wQ;simp only [P7 h.1.1];simp
theorem LO:∀ l:List E,E.dA l=true->hY (E.trees l)=E.dy l
 | [],_=>rfl
 | a::l,h=>by
  simp only [E.dA,aI] at h;rw [E.trees,hY,E.dy,lg a h.1,LO l h.2]
end
theorem Fm (x:E->ah):∀ (l:List S) (acc:ah),uv acc (l.map (S.bF x))=S.dy x acc l
 | [],acc=>by rw [S.dy];rfl
 | a::l,acc=>by
  rw [S.dy,<-Fm x l];simp [uv,fP]
mutual
theorem Wa:∀ (s:S),s.ok=true->∀ d,mb dG gK d s.tree=s.bF E.bF
 | .set s a,h,d=>by
  exact zdG
 | .var s a,h,d=>by
  exact zdG
 | .ret a,h,d=>by
  exact zdV
 | .do_ a,h,d=>by
  exact zdV
 | .put s a b,h,d=>by
  simp only [S.ok,aI] at h;rw [S.tree,mb,List.map_cons,List.map_cons,lg a h.2.1,lg b h.2.2,S.bF];simp [zy]
 | .if1 c b,h,d=>by
  exact zcp
 | .if2 c b b2,h,d=>by
  simp only [S.ok,aI] at h;have hb:=xo b h.2.1 d;have ej:=xo b2 h.2.2 d;rw [S.tree,mb,List.map_cons,lg c h.1,rW,rW,rW,rW,hb,ej,S.bF];simp [zy,gA]
 | .while_ c b,h,d=>by
  exact zcp
theorem xo:∀ (l:List S),S.dA l=true->∀ d,py dG gK d (.mk ⟨14,0,0,[],[]⟩ (S.trees l))=gA E.bF l
 | l,h,d=>by
  rw [py,LJ l h (d+1),gK,Fm];rfl
theorem LJ:∀ (l:List S),S.dA l=true->∀ d,zx dG gK d (S.trees l)=l.map (S.bF E.bF)
 | [],_,d=>by rw [S.trees,zx];rfl
 | a::l,h,d=>by
  simp only [S.dA,aI] at h;rw [S.trees,zx,List.map_cons,Wa a h.1,LJ l h.2]
end
theorem sR {α:Type} {p:α->α->Bool} (h:∀ x,p x x=true):∀ l:List α,gm p l l=true
 | []=>rfl
 | a::l=>by rw [gm,h a,sR h l];rfl
theorem AR {α:Type} [BEq α] [LawfulBEq α]:∀ {a b:List α},gm (fun x y=>x==y) a b=true->a=b
 | [],[],_=>rfl
 | a::r,b::s,h=>by rw [gm,aI,beq_iff_eq] at h;rw [h.1,AR h.2]
 | [],b::s,h=>by cases h
 | a::r,[],h=>by cases h
theorem Ki {α:Type} {p:α->α->Bool}:∀ {a b:List α} {c d:List α},a.length=b.length->gm p (a++c) (b++d)=(gm p a b&&gm p c d)
 | [],[],c,d,_=>rfl
 | a::r,b::s,c,d,h=>by rw [cons_append,cons_append,gm,gm,Ki zfx,Bool.and_assoc]
 | [],b::s,_,_,h=>by simp at h
 | a::r,[],_,_,h=>by simp at h
theorem yJ:∀ (l:List T) (a:Nat),bE a (aZ l)=bE a l
 | [],a=>by rw [aZ]
 | t::r,a=>by rw [aZ,bE,bE,yf,yJ r]
mutual
theorem Vj:∀ (t u:T) (a:Nat),er t=er u->gm mU (iO a t) (iO a u)=true
 | .mk n l,.mk m k,a,h=>by
  rw [er,er] at h
  injection h with D X
  injection D with h3 h4 h5 h6 h7
  rw [iO,iO,gm,Eh l k (a+1) X,Bool.and_true,<-yJ l,<-yJ k,X];simp only [mU,h3,h5,h6];simp [sR]
theorem Eh:∀ (l k:List T) (a:Nat),aZ l=aZ k->gm mU (dX a l) (dX a k)=true
 | [],[],a,_=>by rw [dX];rfl
 | t::r,u::s,a,h=>by
  rw [aZ,aZ] at h
  injection h with D X
  have hz:bc t=bc u:=by rw [<-yf t,D,yf u]
  rw [dX,dX,Ki (by rw [Kq,Kq,hz]),Vj t u a D,<-hz,Eh r s _ X];rfl
 | [],u::s,a,h=>by rw [aZ,aZ] at h;cases h
 | t::r,[],a,h=>by rw [aZ,aZ] at h;cases h
end
mutual
theorem V7:∀ (t u:T) (a:Nat) (x y:List Nd),gm mU (iO a t++x) (iO a u++y)=true->er t=er u/\gm mU x y=true
 | .mk n l,.mk m k,a,x,y,h=>by
  rw [iO,iO,cons_append,cons_append,gm,aI] at h;obtain ⟨D,X⟩:=h;simp only [mU,aI,beq_iff_eq] at D;obtain ⟨⟨⟨h3,h4⟩,h5⟩,h6⟩:=D;have h7:=congrArg List.length (AR h6);rw [eC,eC] at h7;obtain ⟨h8,h9⟩:=EL l k (a+1) x y h7 X;exact ⟨by rw [er,er,h3,h4,h5,h8],h9⟩
theorem EL:∀ (l k:List T) (a:Nat) (x y:List Nd),l.length=k.length->gm mU (dX a l++x) (dX a k++y)=true->aZ l=aZ k/\gm mU x y=true
 | [],[],a,x,y,_,h=>by rw [dX,nil_append,nil_append] at h;exact ⟨rfl,h⟩
 | t::r,u::s,a,x,y,hl,h=>by
  rw [dX,dX,fP,fP] at h;obtain ⟨D,X⟩:=V7 t u a _ _ h
  have hz:bc t=bc u:=by rw [<-yf t,D,yf u]
  rw [<-hz] at X;obtain ⟨h3,h4⟩:=EL r s _ x y zfz X;exact ⟨by rw [aZ,aZ,D,h3],h4⟩
 | [],u::s,a,x,y,hl,h=>by simp at hl
 | t::r,[],a,x,y,hl,h=>by simp at hl
end
theorem V6 {l k:List T} (hl:l.length=k.length) (h:gm mU (dX 0 l) (dX 0 k)=true):aZ l=aZ k:=by
 have:=EL l k 0 [] [] hl (by rw [ef,ef];exact h);exact this.1
structure PS where
 trees:List T
 globals:List ah
 arrays:List Ar
 fns:List (ah × List ah)
def PS.empty:PS:=⟨[],[],[],[]⟩
def qU:Nat->List ah->RS->Option (List ah × RS)
 | 0,_,_=>none
 | f+1,acc,p =>
  if p.code=0/\is p 0 [41]=false then qU f (acc++[(tok (if acc.length=0 then p else want p [44]) 0).s]) (bI (if acc.length=0 then p else want p [44]))
  else some (acc,want p [41])
def iW (f:Nat) (p:RS) (st:PS):Option (RS × PS) :=
 if is p 0 jc=true then
  if (bI p.next).code=0/\is (bI p.next) 0 [91]=true then
   if (tok (bI p.next).next 0).kind=1 then
    some (want (want (bI p.next).next.next [93]) [59],{ st with arrays:=st.arrays++[⟨(tok p.next 0).s,(tok (bI p.next).next 0).n⟩] })
   else some (ml (bI p.next).next,st)
  else some (want (bI p.next) [59],{ st with globals:=st.globals++[(tok p.next 0).s] })
 else if is p 0 jv=true then
  match qU f [] (want (bI p.next) [40]) with
  | none=>none
  | some (l,q) =>
   if q.code=0 then match iS f (.block 1) q with
    | none=>none
    | some (t,q)=>some (q,{ st with trees:=st.trees++[t],fns:=st.fns++[((tok p.next 0).s,l)] })
   else some (q,st)
 else some (ml p,st)
def pC:Nat->Nat->RS->PS->Option (RS × PS)
 | 0,_,_,_=>none
 | g+1,f,p,st =>
  if p.code=0/\p.i < p.l.length then match iW f p st with
   | none=>none
   | some (p,st)=>pC g f p st
  else some (p,st)
theorem PD:∀ (f:Nat) (acc:List ah) (p:RS) (l:List ah) (q:RS),p.ok->qU f acc p=some (l,q)->p.to q
 | 0,_,_,_,_,_,h=>by cases h
 | f+1,acc,p,l,q,hp,h=>by
  rw [qU] at h;split at h
  ·have D:p.to (if acc.length=0 then p else want p [44]):=by split;exact kh hp;exact c7 hp _
   have X:=jA (D.ok hp);have h3:=PD f _ _ l q ((D.trans X).ok hp) h;exact (D.trans X).trans h3
  ·cases h;exact c7 hp _
theorem ZM {f:Nat} {p q:RS} {st eP:PS} (hp:p.ok) (h:iW f p st=some (q,eP)):p.to q:=by
 unfold iW at h;split at h
 ·rename_i hi;have D:=lH hi;have X:=D.trans (jA (D.ok hp));split at h
  ·rename_i hb;have h3:=X.trans (lH hb.2);split at h
   ·rename_i hk
    have fk:(tok (bI p.next).next 0).kind≠0:=by rw [hk];decide
    have h4:=h3.trans (cE (by have:=uk fk;exact this));have h5:=h4.trans (c7 (h4.ok hp) [93])
    cases h;exact h5.trans (c7 (h5.ok hp) _)
   ·cases h;exact h3.trans (za (h3.ok hp))
  ·cases h;exact X.trans (c7 (X.ok hp) _)
 ·split at h
  ·rename_i hi;have D:=lH hi;have X:=D.trans (jA (D.ok hp));have h3:=X.trans (c7 (X.ok hp) [40])
   cases hm:qU f [] (want (bI p.next) [40]) with
   | none=>rw [hm] at h;cases h
   | some r =>
    obtain ⟨l,q1⟩:=r;rw [hm] at h;simp only at h;have h4:=h3.trans (PD _ _ _ _ _ (h3.ok hp) hm);split at h
    ·cases hb:iS f (.block 1) q1 with
     | none=>exact za0
     | some r =>
      obtain ⟨t,q2⟩:=r;rw [hb] at h;cases h;exact h4.trans ((Gz f).1 _ _ _ _ (h4.ok hp) hb)
    ·cases h;exact h4
  ·cases h;exact za hp
structure PS.le (a:PS) (n:Nat):Prop where
 trees:a.trees.length<=n
 globals:a.globals.length<=n
 arrays:a.arrays.length<=n
 fns:a.fns.length=a.trees.length
theorem ZK {f n:Nat} {p q:RS} {st eP:PS} (h:iW f p st=some (q,eP)) (hs:st.le n):eP.le (n+1):=by
 obtain ⟨a,b,c,d⟩:=hs;have key:st.le (n+1):=⟨by omega,by omega,by omega,d⟩;unfold iW at h;split at h
 ·split at h
  ·split at h
   ·cases h;exact zcd
   ·cases h;exact key
  ·cases h;exact zcd
 ·split at h
  ·split at h
   ·cases h
   ·split at h
    ·split at h
     ·cases h
     ·cases h;exact zcd
    ·cases h;exact key
  ·cases h;exact key
end Go.Im
namespace Go.Sp
open Go.Xp
inductive Tz (s:ah):Nat->List Tok->Nat->Prop
 | nil (a:Nat):Tz s a [] a
 | blank {a b:Nat} {c:UInt8} {ts:List Tok} (hc:s[a]?=some c) (hb:fu c=true) (h:Tz s (a+1) ts b):Tz s a ts b
 | tok {a a' b:Nat} {c:UInt8} {t:Tok} {ts:List Tok} (hc:s[a]?=some c) (hb:fu c=false) (hr:bY s a [47,42]=false) (ht:gw s a c=(t,a')) (hk:t.kind=1\/t.kind=2\/t.kind=3) (hn:t.n<=2147483647) (ha:a < a') (h:Tz s a' ts b):Tz s a (t::ts) b
theorem Tz.app {s:ah} {a b c:Nat} {ts us:List Tok} (h:Tz s a ts b) (k:Tz s b us c):Tz s a (ts++us) c:=by
 induction h with
 | nil a=>exact k
 | blank hc hb h ih=>exact .blank hc hb (ih k)
 | tok hc hb hr ht hk hn ha h ih=>exact .tok hc hb hr ht hk hn ha (ih k)
theorem Tz.kinds {s:ah} {a b:Nat} {ts:List Tok} (h:Tz s a ts b):∀ t∈ts,t.kind=1\/t.kind=2\/t.kind=3:=by
 induction h with
 | nil a=>intro t h;cases h
 | blank hc hb h ih=>exact ih
 | tok hc hb hr ht hk hn ha h ih =>
  intro t h
  rcases eF h with rfl | h
  ·exact hk
  ·exact ih t h
theorem Tz.len {s:ah} {a b:Nat} {ts:List Tok} (h:Tz s a ts b):a+ts.length<=b:=by
 induction h with
 | nil a=>simp
 | blank hc hb h ih=>omega
 | tok hc hb hr ht hk hn ha h ih=>exact zeb
theorem QA (s:ah):∀ (f f' a:Nat),a<=s.length->s.length < f+a->s.length < f'+a->skip s f a=skip s f' a:=by
 intro f
 induction f with
 | zero=>intro f' a D X;omega
 | succ f ih =>
  intro f' a D X h3;obtain ⟨f',rfl⟩:∃ g,f'=g+1:=⟨f' - 1,by omega⟩;rw [skip,skip]
  cases hc:s[a]? with
  | none=>rfl
  | some c =>
   simp only;have au:=(bu hc).1;split
   ·exact ih f' (a+1) aq aq aq
   ·split
    ·rename_i hb;have hb:=lC hb;have hb:a+2<=s.length:=hb;have h4:=uL s s.length (a+2) hb;have h5:=tH s s.length (a+2) hb aq;split
     ·rfl
     ·rename_i hn
      have h6:bY s (fR s s.length (a+2)) [42,47]=true:=by
       cases qu:bY s (fR s s.length (a+2)) [42,47] with
       | true=>rfl
       | false=>exact absurd ⟨by omega,qu⟩ h5
      have h6:=lC h6;have h6:fR s s.length (a+2)+2<=s.length:=h6;exact ih f' _ aq aq aq
    ·rfl
theorem Tz.gW {s:ah} {a b:Nat} {ts:List Tok} (h:Tz s a ts b):∀ (f:Nat) (acc:List Tok),sx s (f+ts.length) (skip s (s.length+1) a).1 acc=sx s f (skip s (s.length+1) b).1 (acc++ts):=by
 induction h with
 | nil a=>intro f acc;simp
 | blank hc hb h ih =>
  rename_i a b c ts;intro f acc;have au:=(bu hc).1;rw [<-ih f acc]
  have:skip s (s.length+1) a=skip s (s.length+1) (a+1):=by
   rw [skip,hc];simp only;rw [ae hb];exact QA s _ _ _ aq aq aq
  rw [this]
 | tok hc hb hr ht hk hn ha h ih =>
  rename_i a a' b c t ts;intro f acc
  have:skip s (s.length+1) a=(a,-1):=by
   rw [skip,hc];simp only;rw [ab zf6,ab (by rw [hr];decide)]
  rw [this,length_cons,<-iy,sx,hc];simp only [ht];rw [ih f (acc++[t]),fP];rfl
theorem Tz.all {s:ah} {ts:List Tok} (h:Tz s 0 ts s.length):Go.Sp.gW s=some ts:=by
 have D:=h.len;have X:=h.gW (s.length+2 - ts.length) [];unfold Go.Sp.gW;rw [show s.length+2 - ts.length+ts.length=s.length+2 by omega] at X;rw [X]
 have h3:skip s (s.length+1) s.length=(s.length,-1):=by rw [skip];simp
 rw [h3];obtain ⟨g,hg⟩:∃ g,s.length+2 - ts.length=g+1:=⟨s.length+1 - ts.length,by omega⟩;rw [hg,sx];simp
theorem pd {s r:ah} {a:Nat} {c:UInt8} (h:s.drop a=c::r):s[a]?=some c/\s.drop (a+1)=r/\a < s.length:=by
 have D:s[a]?=some c:=by
  have:=List.getElem?_drop (xs:=s) (i:=a) (j:=0);rw [h] at this;simpa using this.symm
 refine ⟨D,?_,(bu D).1⟩;rw [<-List.tail_drop,h];rfl
theorem V3 (s:ah) (p:UInt8->Bool):∀ (w post:ah) (f a:Nat),s.drop a=w++post->(∀ c∈w,p c=true)->run s p (f+w.length) a=run s p f (a+w.length):=by
 intro w
 induction w with
 | nil=>intro post f a h hp;rfl
 | cons c w ih =>
  intro post f a h hp;obtain ⟨D,X,_⟩:=pd h;rw [length_cons,<-iy,run,D];simp only;rw [ae (hp c (mem_cons_self)),ih post f (a+1) X (fun c hc=>hp c (dm _ hc))]
  congr 1;omega
theorem SX (s:ah) (p:UInt8->Bool) (post:ah) (f a:Nat) (h:s.drop a=post) (hp:∀ c,post.head?=some c->p c=false):run s p f a=a:=by
 cases f with
 | zero=>rfl
 | succ f =>
  rw [run]
  cases post with
  | nil =>
   have:s[a]?=none:=by
    rw [List.getElem?_eq_none_iff];have:=congrArg List.length h;simp at this;omega
   rw [this]
  | cons c r =>
   exact zdM
theorem take_drop {s w post:ah} {a:Nat} (h:s.drop a=w++post):(s.take (a+w.length)).drop a=w:=by
 rw [List.drop_take,h,Nat.add_sub_cancel_left,List.take_left]
theorem H0 {s w post:ah} {a:Nat} (h:s.drop a=w++post) (ha:a<=s.length):a+w.length+post.length=s.length:=by
 have:=congrArg List.length h;simp only [kA,aO] at this;omega
theorem Tn {s w post:ah} {a:Nat} {c:UInt8} {r:ah} (ha:a<=s.length) (h:s.drop a=w++post) (hw:w=c::r) (hs:small c=true) (ba:∀ c∈w,eJ c=true) (hp:∀ c,post.head?=some c->eJ c=false) :
  gw s a c=(⟨if words.contains w=true then 3 else 2,0,w,a⟩,a+w.length):=by
 have hl:=H0 h ha
 have he:fS s a=a+w.length:=by
  unfold fS;obtain ⟨g,hg⟩:∃ g,s.length+1=g+w.length:=⟨s.length+1 - w.length,by omega⟩;rw [hg,V3 s eJ w post g a h ba];refine SX s eJ post g _ ?_ hp;rw [<-List.drop_drop,h,drop_left]
 have hd:ew c=false:=by
  simp only [small,ew,aI] at hs |-;have D:=nD hs.1
  have:¬ ((c.toNat:Int)<=57):=by omega
  simp [this]
 unfold gw;rw [ab (by rw [hd];decide),ae hs];unfold ir;rw [he,take_drop h]
def fold (n:Int) (w:ah):Int:=w.foldl (fun n c=>if n<=2147483647 then n * 10+((c.toNat:Int) - 48) else n) n
theorem Na (s:ah):∀ (w post:ah) (f:Nat) (n:Int) (a:Nat),s.drop a=w++post->(∀ c∈w,ew c=true)->number s (f+w.length) n a=number s f (fold n w) (a+w.length):=by
 intro w
 induction w with
 | nil=>intro post f n a h hp;rfl
 | cons c w ih =>
  intro post f n a h hp;obtain ⟨D,X,_⟩:=pd h;rw [length_cons,<-iy,number,D];simp only;rw [ae (hp c (mem_cons_self)),ih post f _ (a+1) X (fun c hc=>hp c (dm _ hc))];rw [show a+1+w.length=a+(w.length+1) by omega];rfl
theorem JL (s:ah) (post:ah) (f:Nat) (n:Int) (a:Nat) (h:s.drop a=post) (hp:∀ c,post.head?=some c->ew c=false):number s f n a=(n,a):=by
 cases f with
 | zero=>rfl
 | succ f =>
  rw [number]
  cases post with
  | nil =>
   have:s[a]?=none:=by
    rw [List.getElem?_eq_none_iff];have:=congrArg List.length h;simp at this;omega
   rw [this]
  | cons c r =>
   exact zdM
theorem Oy (k:Nat) (h:k<=9):ew (UInt8.ofNat (48+k))=true/\((UInt8.ofNat (48+k)).toNat:Int)=48+k:=by
 have:(UInt8.ofNat (48+k)).toNat=48+k:=by simp;omega
 refine ⟨?_,by rw [this];omega⟩;simp only [ew,aI,this];exact ⟨decide_eq_true aq,decide_eq_true aq⟩
theorem Ke (n:Nat):(∀ c∈gJ n,ew c=true)/\(n<=2147483647->fold 0 (gJ n)=n)/\gJ n≠[]:=by
 induction n using Nat.strongRecOn with
 | _ n ih =>
 unfold gJ
 by_cases h:n < 10
 ·rw [dif_pos h];obtain ⟨D,X⟩:=Oy n aq;refine ⟨fun c hc=>by rw [mem_singleton] at hc;subst hc;exact D,fun _=>?_,by simp⟩;simp only [fold,foldl_cons,List.foldl_nil];rw [ae aq,X];omega
 ·rw [dif_neg h];obtain ⟨D,X,h3⟩:=ih (n / 10) aq;obtain ⟨h4,h5⟩:=Oy (n % 10) aq;refine ⟨fun c hc=>?_,fun hn=>?_,by simp⟩
  ·rcases nt hc with hc | hc
   ·exact D c hc
   ·rw [mem_singleton] at hc;subst hc;exact h4
  ·have:=X aq;unfold fold at this |-;rw [List.foldl_append,this];simp only [foldl_cons,List.foldl_nil];rw [ae aq,h5];omega
theorem VP {s post:ah} {n a:Nat} {c:UInt8} {r:ah} (ha:a<=s.length) (h:s.drop a=gJ n++post) (hw:gJ n=c::r) (hn:n<=2147483647) (hp:∀ c,post.head?=some c->ew c=false) :
  gw s a c=(⟨1,n,[],a⟩,a+(gJ n).length):=by
 obtain ⟨D,X,h3⟩:=Ke n;have hl:=H0 h ha;have hd:ew c=true:=D c (by rw [hw];exact mem_cons_self);obtain ⟨g,hg⟩:∃ g,s.length+1=g+(gJ n).length:=⟨s.length+1 - (gJ n).length,by omega⟩;unfold gw;rw [ae hd,hg,Na s (gJ n) post g 0 a h D,X hn,JL s post g _ _ (by rw [<-List.drop_drop,h,drop_left]) hp]
theorem wY {s r t:ah} {a:Nat} (h:s.drop a=r) (ha:a<=s.length):bY s a t=t.isPrefixOf r:=by
 have hl:a+r.length=s.length:=by have:=congrArg List.length h;simp at this;omega
 unfold bY;rw [List.drop_take,h,Nat.add_sub_cancel_left]
 by_cases hp:t <+: r
 ·obtain ⟨z,rfl⟩:=hp;simp only [aO] at hl
  have X:t.isPrefixOf (t++z)=true:=by rw [List.isPrefixOf_iff_prefix];exact ⟨z,rfl⟩
  rw [X,List.take_left];simp only [aI,beq_self_eq_true,and_true,decide_eq_true_eq];omega
 ·have D:t.isPrefixOf r=false:=by
   cases hh:t.isPrefixOf r with
   | false=>rfl
   | true=>exact absurd (List.isPrefixOf_iff_prefix.1 hh) hp
  rw [D]
  have X:(r.take t.length==t)=false:=by
   rw [beq_eq_false_iff_ne];intro h3;exact hp ⟨r.drop t.length,by have:=take_append_drop t.length r;rw [h3] at this;exact this⟩
  rw [X,Bool.and_false]
def EJ:List UInt8:=[32,40,41,91,93,44,59,123,125,10]
def Sep (post:ah):Prop:=∀ c,post.head?=some c->c∈EJ
theorem Sep.eJ {post:ah} (h:Sep post):∀ c,post.head?=some c->eJ c=false:=by
 intro c hc
 have:∀ c∈EJ,Go.Sp.eJ c=false:=by decide
 exact this c (h c hc)
theorem Sep.ew {post:ah} (h:Sep post):∀ c,post.head?=some c->ew c=false:=by
 intro c hc
 have:∀ c∈EJ,Go.Sp.ew c=false:=by decide
 exact this c (h c hc)
theorem VW {x y z:ah} (h:x.length<=y.length):x.isPrefixOf (y++z)=x.isPrefixOf y:=by
 induction x generalizing y with
 | nil=>simp
 | cons a x ih =>
  cases y with
  | nil=>simp at h
  | cons b y=>simp only [cons_append,List.isPrefixOf];rw [ih zfx]
theorem find_congr {α:Type} {p q:α->Bool}:∀ {l:List α},(∀ x∈l,p x=q x)->l.find? p=l.find? q
 | [],_=>rfl
 | a::l,h=>by rw [List.find?_cons,List.find?_cons,h a (mem_cons_self),find_congr (fun x hx=>h x (dm _ hx))]
theorem S4 {s w post:ah} {a:Nat} {c:UInt8} {r:ah} (ha:a<=s.length) (h:s.drop a=w++post) (hw:w=c::r) (hm:w∈bX) (hp:Sep post) :
  gw s a c=(⟨3,0,w,a⟩,a+w.length)/\fu c=false/\bY s a [47,42]=false:=by
 have hd:∀ w∈bX,∀ c,w.head?=some c->ew c=false/\small c=false/\fu c=false:=by
  have:∀ w∈bX,(match w.head? with | some c=>!ew c&&!small c&&!fu c | none=>true)=true:=by decide
  intro w hw c hc;have:=this w hw;rw [hc] at this;simp only [aI,Bool.not_eq_true'] at this;exact ⟨this.1.1,this.1.2,this.2⟩
 obtain ⟨D,X,h3⟩:=hd w hm c (by rw [hw];rfl)
 have MC:∀ w∈bX,w.length<=2/\1<=w.length:=by decide
 have key:∀ w∈bX,bX.find? (fun x=>x.isPrefixOf w)=some w/\[47,42].isPrefixOf w=false:=by decide
 have abN:∀ w∈bX,∀ c∈EJ,bX.find? (fun x=>x.isPrefixOf (w++[c]))=some w/\[47,42].isPrefixOf (w++[c])=false:=by decide
 have hf:bX.find? (bY s a)=some w/\bY s a [47,42]=false:=by
  have e1:∀ x,bY s a x=x.isPrefixOf (w++post):=fun x=>wY h ha
  have e2:bX.find? (bY s a)=bX.find? (fun x=>x.isPrefixOf (w++post)):=find_congr fun x _=>e1 x
  rw [e2,e1]
  cases post with
  | nil=>rw [ef];exact key w hm
  | cons c' post =>
   have dw:=hp c' rfl
   have e3:∀ x:ah,x.length<=2->x.isPrefixOf (w++c'::post)=x.isPrefixOf (w++[c']):=fun x hx=>by
    rw [show w++c'::post=(w++[c'])++post by simp];exact VW (by rw [aO];have:=(MC w hm).2;simp;omega)
   rw [find_congr fun x hx=>e3 x (MC x hx).1,e3 _ ao];exact abN w hm c' dw
 refine ⟨?_,h3,hf.2⟩;unfold gw;rw [ab (by rw [D];decide),ab (by rw [X];decide),hf.1]
theorem RN {s post:ah} {a:Nat} {c:UInt8} (ha:a<=s.length) (h:s.drop a=c::post) (hm:c∈[40,41,91,93,44,59,123,125]) :
  gw s a c=(⟨3,0,[c],a⟩,a+1)/\fu c=false/\bY s a [47,42]=false:=by
 have hd:∀ c∈([40,41,91,93,44,59,123,125]:List UInt8),ew c=false/\small c=false/\fu c=false/\c≠47:=by decide
 obtain ⟨D,X,h3,h4⟩:=hd c hm
 have e1:∀ x,bY s a x=x.isPrefixOf (c::post):=fun x=>wY h ha
 have e2:bX.find? (bY s a)=bX.find? (fun x=>x.isPrefixOf (c::post)):=find_congr fun x _=>e1 x
 have key:∀ post:ah,∀ c∈([40,41,91,93,44,59,123,125]:List UInt8),bX.find? (fun x=>x.isPrefixOf (c::post))=some [c]:=by
  intro post c hc;simp only [List.mem_cons,List.not_mem_nil,or_false] at hc
  rcases hc with rfl | rfl | rfl | rfl | rfl | rfl | rfl | rfl <;> rfl
 refine ⟨?_,h3,?_⟩
 ·unfold gw;rw [ab (by rw [D];decide),ab (by rw [X];decide),e2,key post c hm];rfl
 ·rw [e1];simp only [List.isPrefixOf]
  have:((47:UInt8)==c)=false:=by rw [beq_eq_false_iff_ne];exact fun h=>h4 h.symm
  rw [this,Bool.false_and]
end Go.Sp
namespace Go.Im
open Go.Xp Go.Sp
def qb:List ah:=[[105,110,116],[118,97,114],[102,117,110,99],[105,102],[101,108,115,101],[119,104,105,108,101],[114,101,116,117,114,110],[124,124],[38,38],[61,61],[33,61],[60,61],[62,61],[60,60],[62,62],[40],[41],[123],[125],[91],[93],[44],[59],[61],[60],[62],[43],[45],[42],[47],[37],[38],[124],[94],[33],[126]]
theorem AB:qb=words++bX:=by decide
def nh (s:ah):Bool:=qb.contains s
def nQ:ah->Int->Int
 | [],n=>n
 | c::r,n=>if n<=2147483647 then nQ r (10 * n+((c.toNat:Int) - 48)) else n
def dD (s:ah) (a b:Nat):ah:=(s.take b).drop a
def la (s:ah) (a:Nat) (k:Nat):Bool:=decide (a+k<=s.length)&&(match s[a]? with | some c=>!(small c) | none=>false)&&nh (dD s a (a+k))
def jz (s:ah) (a:Nat):ah:=if la s a 2=true then dD s a (a+2) else if la s a 1=true then dD s a (a+1) else []
def oL (s:ah) (a:Nat):Nat:=run s ew (s.length+1) a
def vX:Tok:=⟨0,0,[],0⟩
def nY (s:ah) (a:Nat) (c:UInt8):Tok × Nat × Int :=
 if ew c=true then
  if nQ (dD s a (oL s a)) 0 > 2147483647 then (vX,a,3) else (⟨1,nQ (dD s a (oL s a)) 0,[],a⟩,oL s a,0)
 else if small c=true then (⟨if nh (ir s a)=true then 3 else 2,0,ir s a,a⟩,fS s a,0)
 else if jz s a=[] then (vX,a,2)
 else (⟨3,0,jz s a,a⟩,a+(jz s a).length,0)
def vE:ah->Option Nat
 | []=>none
 | b::l=>if List.isPrefixOf [42,47] (b::l) then some 0 else match vE l with | none=>none | some n=>some (n+1)
def rp (s:ah):Nat->Nat->List Tok->Option (List Tok × Int × Int)
 | 0,_,_=>none
 | f+1,a,acc=>match s[a]? with
  | none=>some (acc,0,0)
  | some c =>
   if fu c=true then rp s f (a+1) acc
   else if bY s a [47,42]=true then
    match vE (s.drop (a+2)) with
    | none=>some ([],4,a)
    | some n=>rp s f (a+(n+4)) acc
   else if (nY s a c).2.2≠0 then some ([],(nY s a c).2.2,a)
   else rp s f (nY s a c).2.1 (acc++[(nY s a c).1])
structure CL (t:Tok):Prop where
 num:t.kind=1->0<=t.n/\t.n<=2147483647/\t.s=[]
 name:t.kind=2->word t.s=true/\nh t.s=false
 sign:t.kind=3->nh t.s=true
 kinds:t.kind=1\/t.kind=2\/t.kind=3
theorem nb {s:ah} {a b:Nat} (h:b<=s.length):(dD s a b).length=b - a:=by
 unfold dD;rw [kA,gy];omega
theorem rC {s:ah} {a b:Nat} {c:UInt8} (h:s[a]?=some c) (hb:a < b) (hl:b<=s.length):dD s a b=c::dD s (a+1) b:=by
 unfold dD;have au:=(bu h).1
 have:(s.take b)[a]?=some c:=by rw [getElem?_take,ae hb];exact h
 have X:=(bu this);rw [oG X.1,X.2]
theorem EH (s:ah) (p:UInt8->Bool):∀ (f a:Nat),a<=s.length->∀ c∈dD s a (run s p f a),p c=true:=by
 intro f
 induction f with
 | zero =>
  intro a ha c hc;rw [Go.Sp.run] at hc
  have:(dD s a a).length=0:=by rw [nb ha];omega
  rw [gx this] at hc;cases hc
 | succ f ih =>
  intro a ha c hc;rw [Go.Sp.run] at hc
  have HC:∀ x:ah,x=dD s a a->c∈x->p c=true:=fun x hx hm=>by
   have:(dD s a a).length=0:=by rw [nb ha];omega
   rw [hx,gx this] at hm;cases hm
  cases hq:s[a]? with
  | none=>rw [hq] at hc;exact HC _ rfl hc
  | some d =>
   rw [hq] at hc;simp only at hc;have au:=(bu hq).1
   by_cases hp:p d=true
   ·rw [ae hp] at hc
    have kF:a+1<=Go.Sp.run s p f (a+1)/\Go.Sp.run s p f (a+1)<=s.length:=by
     have:∀ (f a:Nat),a<=s.length->a<=Go.Sp.run s p f a/\Go.Sp.run s p f a<=s.length:=by
      intro f
      induction f with
      | zero=>intro a h;exact zeL
      | succ f ih =>
       intro a h;rw [Go.Sp.run]
       cases hq:s[a]? with
       | none=>exact zeL
       | some d =>
        simp only;split
        ·have:=ih (a+1) (bu hq).1;omega
        ·exact zeL
     exact this f (a+1) au
    rw [rC hq aq kF.2] at hc
    rcases eF hc with rfl | hc
    ·exact hp
    ·exact ih (a+1) au c hc
   ·rw [ab hp] at hc;exact HC _ rfl hc
theorem Lp:∀ (w:ah) (n:Int),0<=n->(∀ c∈w,ew c=true)->0<=nQ w n
 | [],n,h,_=>h
 | c::r,n,h,hd=>by
  rw [nQ];have hc:=hd c (mem_cons_self);simp only [ew,aI,decide_eq_true_eq] at hc;split
  ·exact Lp r _ aq (fun c hc=>hd c (dm _ hc))
  ·exact h
theorem Sc {x:ah} (h:nh x=true):x≠[]:=by
 intro h0;subst h0;revert h;decide
theorem LR {s:ah} {a:Nat} {c:UInt8} (hc:s[a]?=some c) (h0:(nY s a c).2.2=0):CL (nY s a c).1/\(nY s a c).1.at_=a/\a < (nY s a c).2.1/\(nY s a c).2.1<=s.length:=by
 have au:=(bu hc).1;unfold nY at h0 |-
 by_cases hd:ew c=true
 ·rw [ae hd] at h0 |-
  by_cases hn:nQ (dD s a (oL s a)) 0 > 2147483647
  ·rw [ae hn] at h0;cases h0
  ·rw [ab hn];obtain ⟨e1,e2,e3⟩:=qn s ew (s.length+1) a aq aq
   have wv:a < oL s a:=by
    rcases Nat.lt_or_ge a (oL s a) with h | h
    ·exact h
    ·have he:Go.Sp.run s ew (s.length+1) a=a:=by unfold oL at h;omega
     have:=e1 c (by rw [he];exact hc);rw [hd] at this;cases this
   refine ⟨⟨fun _=>⟨Lp _ _ ao (EH s ew _ a aq),by simpa using hn,rfl⟩,fun h=>by simp at h,fun h=>by simp at h,.inl rfl⟩,rfl,wv,e3⟩
 ·rw [ab hd] at h0 |-
  by_cases hs:small c=true
  ·rw [ae hs];obtain ⟨e1,e2,e3⟩:=qn s eJ (s.length+1) a aq aq
   have wz:eJ c=true:=by simp [eJ,hs]
   have wv:a < fS s a:=by
    rcases Nat.lt_or_ge a (fS s a) with h | h
    ·exact h
    ·have he:Go.Sp.run s eJ (s.length+1) a=a:=by unfold fS at h;omega
     exact zeZ
   have hw:word (ir s a)=true:=by
    have D:ir s a=c::dD s (a+1) (fS s a):=rC hc wv e3;have X:=EH s eJ (s.length+1) a aq;unfold word;have h3:(ir s a).all eJ=true:=gP.2 X;rw [h3,D];simp [hs]
   refine ⟨⟨fun h=>?_,fun h=>⟨hw,?_⟩,fun h=>?_,?_⟩,rfl,wv,e3⟩
   ·simp only at h;exact zeS
   ·simp only at h;split at h
    ·cases h
    ·rename_i hh;simpa using hh
   ·simp only at h;split at h
    ·assumption
    ·cases h
   ·simp only;split
    ·exact .inr (.inr rfl)
    ·exact .inr (.inl rfl)
  ·rw [ab hs] at h0 |-
   by_cases hg:jz s a=[]
   ·rw [ae hg] at h0;cases h0
   ·rw [ab hg]
    have key:nh (jz s a)=true/\a+(jz s a).length<=s.length:=by
     unfold jz at hg |-
     have aux:∀ k,la s a k=true->nh (dD s a (a+k))=true/\a+(dD s a (a+k)).length<=s.length:=fun k h=>by
      simp only [la,aI,decide_eq_true_eq] at h;refine ⟨h.2,?_⟩;rw [nb h.1.1];have:=h.1.1;omega
     split
     ·exact aux 2 (by assumption)
     ·rename_i X;rw [ab X] at hg;split
      ·exact aux 1 (by assumption)
      ·rename_i D;rw [ab D] at hg;exact absurd rfl hg
    have hl:=List.length_pos_iff.2 (Sc key.1);exact ⟨⟨fun h=>by simp at h,fun h=>by simp at h,fun _=>key.1,.inr (.inr rfl)⟩,rfl,by simp only;omega,key.2⟩
theorem Em:∀ {l:ah} {n:Nat},vE l=some n->n+2<=l.length
 | [],n,h=>by cases h
 | b::l,n,h=>by
  rw [vE] at h;split at h
  ·rename_i hp;cases h
   cases l with
   | nil=>simp [List.isPrefixOf] at hp
   | cons d l=>simp
  ·cases hq:vE l with
   | none=>rw [hq] at h;cases h
   | some m=>rw [hq] at h;cases h;have:=Em hq;exact zeb
theorem ug (s:ah):∀ (f a:Nat) (acc:List Tok),a<=s.length->s.length < f+a->(∀ t∈acc,CL t)->(acc.Pairwise fun x y=>x.at_ < y.at_)->(∀ t∈acc,t.at_ < (a:Int))->acc.length<=a ->
  ∃ ts c z,rp s f a acc=some (ts,c,z)/\(∀ t∈ts,CL t)/\(ts.Pairwise fun x y=>x.at_ < y.at_)/\ts.length<=s.length
 | 0,a,acc,D,X,_,_,_,_=>by omega
 | f+1,a,acc,D,X,h3,h4,h5,h6=>by
  rw [rp]
  cases hc:s[a]? with
  | none=>exact ⟨acc,0,0,rfl,h3,h4,by omega⟩
  | some c =>
   simp only;have au:=(bu hc).1;split
   ·exact ug s f (a+1) acc aq aq h3 h4 (fun t ht=>by have:=h5 t ht;omega) aq
   ·split
    ·rename_i hb;have kE:=lC hb;simp only [length_cons,length_nil] at kE
     cases hi:vE (s.drop (a+2)) with
     | none=>exact ⟨[],4,a,rfl,fun t h=>by simp at h,.nil,aX _⟩
     | some n =>
      have:=Em hi;rw [kA] at this;exact ug s f (a+(n+4)) acc aq aq h3 h4 (fun t ht=>by have:=h5 t ht;omega) aq
    ·split
     ·exact ⟨[],_,a,rfl,fun t h=>by simp at h,.nil,aX _⟩
     ·rename_i h0;obtain ⟨k1,k2,k3,k4⟩:=LR hc zf5;refine ug s f _ _ k4 aq (fun t ht=>?_) ?_ (fun t ht=>?_) (by rw [aO];simp only [length_cons,length_nil];omega)
      ·rcases nt ht with h | h
       ·exact h3 t h
       ·rw [mem_singleton] at h;subst h;exact k1
      ·rw [List.pairwise_append];refine ⟨h4,List.pairwise_singleton _ _,fun x hx y hy=>?_⟩;rw [mem_singleton] at hy;subst hy;rw [k2];exact h5 x hx
      ·rcases nt ht with h | h
       ·have:=h5 t h;omega
       ·rw [mem_singleton] at h;subst h;rw [k2];omega
theorem BQ (s:ah):∀ (f:Nat) (n:Int) (a:Nat),a<=s.length->s.length < f+a->nQ (dD s a (number s f n a).2) n=(number s f n a).1
 | 0,n,a,D,X=>by omega
 | f+1,n,a,D,X=>by
  have HC:dD s a a=[]:=gx (by rw [nb D];omega);rw [number]
  cases hc:s[a]? with
  | none=>simp only;rw [HC,nQ]
  | some c =>
   simp only;have au:=(bu hc).1
   by_cases hd:ew c=true
   ·rw [ae hd];obtain ⟨e1,e2,e3⟩:=uP s f (if n<=2147483647 then n * 10+((c.toNat:Int) - 48) else n) (a+1) aq aq;rw [rC hc aq e3,nQ];have ih:=BQ s f (if n<=2147483647 then n * 10+((c.toNat:Int) - 48) else n) (a+1) aq aq
    by_cases hn:n<=2147483647
    ·rw [ae hn] at ih |-;rw [ae hn,Int.mul_comm 10 n];exact ih
    ·rw [ab hn] at ih |-;rw [ab hn];rw [<-ih]
     cases hw:dD s (a+1) (number s f n (a+1)).2 with
     | nil=>rw [nQ]
     | cons d r=>rw [nQ,ab hn]
   ·rw [ab hd];simp only;rw [HC,nQ]
theorem Dx (s:ah):∀ (f:Nat) (n:Int) (a:Nat),(number s f n a).2=Go.Sp.run s ew f a
 | 0,n,a=>rfl
 | f+1,n,a=>by
  rw [number,Go.Sp.run]
  cases hc:s[a]? with
  | none=>rfl
  | some c =>
   simp only;split
   ·exact Dx s f _ (a+1)
   ·rfl
theorem qf {s x:ah} {a:Nat}:bY s a x=(decide (a+x.length<=s.length)&&(dD s a (a+x.length)==x)):=rfl
theorem Nu {s:ah} {a:Nat} {c:UInt8} (hc:s[a]?=some c) (hs:small c=false):jz s a=(match bX.find? (bY s a) with | some x=>x | none=>[]):=by
 have au:=(bu hc).1
 have X:∀ x∈bX,x.length=1\/x.length=2:=by decide
 have Dh:bX=bX.take 8++bX.drop 8:=(take_append_drop 8 bX).symm
 have mw:∀ x∈bX.take 8,x.length=2:=by decide
 have jI:∀ x∈bX.drop 8,x.length=1:=by decide
 have hw:∀ x∈words,∃ d r,x=d::r/\small d=true:=by
  intro x hx
  have:∀ x∈words,(match x with | d::_=>small d | []=>false)=true:=by decide
  have:=this x hx
  cases x with
  | nil=>cases this
  | cons d r=>exact ⟨d,r,rfl,this⟩
 have Hx:∀ k,1<=k->a+k<=s.length->dD s a (a+k)=c::dD s (a+1) (a+k):=fun k D X=>rC hc aq X
 have ek:∀ k,1<=k->a+k<=s.length->(nh (dD s a (a+k))=true↔dD s a (a+k)∈bX):=fun k D X=>by
  unfold nh;rw [AB,dz,mem_append];refine ⟨fun h=>h.resolve_left fun hm=>?_,.inr⟩;obtain ⟨d,r,e1,e2⟩:=hw _ hm;rw [Hx k D X] at e1
  cases e1;rw [hs] at e2;cases e2
 have MI:∀ k,1<=k->(la s a k=true↔a+k<=s.length/\dD s a (a+k)∈bX):=fun k D=>by
  unfold la;rw [hc];simp only [hs,Bool.not_false,Bool.and_true,aI,decide_eq_true_eq];exact ⟨fun ⟨p,q⟩=>⟨p,(ek k D p).1 q⟩,fun ⟨p,q⟩=>⟨p,(ek k D p).2 q⟩⟩
 have yE:∀ k,1<=k->k<=2->a+k<=s.length->dD s a (a+k)∈bX->(dD s a (a+k)).length=k:=fun k _ _ h _=>by rw [nb h];omega
 unfold jz
 by_cases t2:la s a 2=true
 ·rw [ae t2];obtain ⟨p,q⟩:=(MI 2 ao).1 t2
  have hq:dD s a (a+2)∈bX.take 8:=by
   rw [Dh] at q
   rcases nt q with h | h
   ·exact h
   ·have:=jI _ h;rw [nb p] at this;omega
  rw [Dh,List.find?_append]
  have:(bX.take 8).find? (bY s a)=some (dD s a (a+2)):=by
   cases hf:(bX.take 8).find? (bY s a) with
   | none =>
    rw [find?_eq_none] at hf;have D:=hf _ hq;rw [qf,nb p,show a+(a+2 - a)=a+2 by omega] at D;simp [p] at D
   | some x =>
    have D:=List.find?_some hf;have h3:=mw x (List.mem_of_find?_eq_some hf);rw [qf,h3] at D;simp only [aI,beq_iff_eq] at D;rw [D.2]
  rw [this];rfl
 ·rw [ab t2]
  have abB:(bX.take 8).find? (bY s a)=none:=by
   rw [find?_eq_none];intro x hx hb;rw [qf,mw x hx] at hb;simp only [aI,beq_iff_eq,decide_eq_true_eq] at hb;exact t2 ((MI 2 ao).2 ⟨hb.1,by rw [hb.2];exact List.mem_of_mem_take hx⟩)
  rw [Dh,List.find?_append,abB]
  by_cases t1:la s a 1=true
  ·rw [ae t1];obtain ⟨p,q⟩:=(MI 1 ao).1 t1
   have hq:dD s a (a+1)∈bX.drop 8:=by
    rw [Dh] at q
    rcases nt q with h | h
    ·have:=mw _ h;rw [nb p] at this;omega
    ·exact h
   have:(bX.drop 8).find? (bY s a)=some (dD s a (a+1)):=by
    cases hf:(bX.drop 8).find? (bY s a) with
    | none =>
     rw [find?_eq_none] at hf;have D:=hf _ hq;rw [qf,nb p,show a+(a+1 - a)=a+1 by omega] at D;simp [p] at D
    | some x =>
     have D:=List.find?_some hf;have h3:=jI x (List.mem_of_find?_eq_some hf);rw [qf,h3] at D;simp only [aI,beq_iff_eq] at D;rw [D.2]
   rw [this];rfl
  ·rw [ab t1]
   have:(bX.drop 8).find? (bY s a)=none:=by
    rw [find?_eq_none];intro x hx hb;rw [qf,jI x hx] at hb;simp only [aI,beq_iff_eq,decide_eq_true_eq] at hb;exact t1 ((MI 1 ao).2 ⟨hb.1,by rw [hb.2];exact List.mem_of_mem_drop hx⟩)
   rw [this];rfl
theorem Wm {s:ah} {a a':Nat} {c:UInt8} {t:Tok} (hc:s[a]?=some c) (h:gw s a c=(t,a')) (hk:t.kind=1\/t.kind=2\/t.kind=3) (hn:t.n<=2147483647):nY s a c=(t,a',0):=by
 have au:=(bu hc).1;unfold gw at h;unfold nY
 by_cases hd:ew c=true
 ·rw [ae hd] at h |-;cases h;have e1:oL s a=(number s (s.length+1) 0 a).2:=(Dx s _ 0 a).symm;rw [e1,BQ s _ 0 a aq aq,ab zf7]
 ·rw [ab hd] at h |-
  by_cases hs:small c=true
  ·rw [ae hs] at h |-;cases h
   have HO:∃ r,ir s a=c::r\/ir s a=[]:=by
    cases hw:ir s a with
    | nil=>exact ⟨[],.inr rfl⟩
    | cons d r =>
     obtain ⟨e1,e2,e3⟩:=qn s eJ (s.length+1) a aq aq
     have wz:eJ c=true:=by simp [eJ,hs]
     have wv:a < fS s a:=by
      rcases Nat.lt_or_ge a (fS s a) with h | h
      ·exact h
      ·have he:Go.Sp.run s eJ (s.length+1) a=a:=by unfold fS at h;omega
       exact zeZ
     have D:ir s a=c::dD s (a+1) (fS s a):=rC hc wv e3;rw [hw] at D;cases D;exact ⟨_,.inl rfl⟩
   have ek:nh (ir s a)=words.contains (ir s a):=by
    unfold nh;rw [AB]
    have Df:∀ x∈bX,(match x with | d::_=>small d | []=>true)=false:=by decide
    obtain ⟨r,D⟩:=HO
    have:bX.contains (ir s a)=false:=by
     cases jH:bX.contains (ir s a) with
     | false=>rfl
     | true =>
      have:=Df _ (dz.1 jH)
      rcases D with D | D <;> rw [D] at this <;> simp only at this
      ·rw [hs] at this;cases this
      ·cases this
    rw [Bool.eq_iff_iff,dz,mem_append,<-dz (as:=bX),this];simp
   rw [ek]
  ·rw [ab hs] at h |-;rw [Nu hc (by simpa using hs)]
   cases hf:bX.find? (bY s a) with
   | none=>rw [hf] at h;cases h;simp at hk
   | some x =>
    rw [hf] at h;cases h;simp only;have hx:=List.mem_of_find?_eq_some hf
    have bT:x≠[]:=by
     intro h0;subst h0;revert hx;decide
    rw [ab bT]
theorem VH {s:ah} {a b:Nat} {ts:List Tok} (h:Tz s a ts b):b=s.length->∀ (f:Nat) (acc:List Tok),s.length < f+a->rp s f a acc=some (acc++ts,0,0):=by
 induction h with
 | nil a =>
  intro hb f acc hf
  cases f with
  | zero=>omega
  | succ f =>
   rw [rp];have:s[a]?=none:=List.getElem?_eq_none_iff.2 aq;rw [this];simp
 | blank hc kE h ih =>
  intro hb f acc hf
  cases f with
  | zero=>have:=(bu hc).1;omega
  | succ f =>
   rw [rp,hc];simp only;rw [ae kE];exact ih hb f acc aq
 | tok hc kE hr ht hk hn ha h ih =>
  intro hb f acc hf
  cases f with
  | zero=>have:=(bu hc).1;omega
  | succ f =>
   rw [rp,hc];simp only;rw [ab (by rw [kE];decide),ab (by rw [hr];decide),Wm hc ht hk hn];simp only [ne_eq,not_true_eq_false,if_false];rw [ih hb f _ aq];simp
abbrev tU (ts:List Tok):Prop:=∀ t∈ts,CL t
def EF (t:T):Prop:=∃ a:E,a.ok=true/\er t=a.tree
def NJ (l:List T):Prop:=∃ es:List E,E.dA es=true/\aZ l=E.trees es
def Sf (ts r:List Tok) (n:Nat):Prop:=∃ pre,ts=pre++r/\n<=pre.length
theorem Sf.nil (ts:List Tok):Sf ts ts 0:=⟨[],rfl,aX _⟩
theorem Sf.one (t:Tok) (ts:List Tok):Sf (t::ts) ts 1:=⟨[t],rfl,aH _⟩
theorem Sf.trans {a b c:List Tok} {n m:Nat} (h:Sf a b n) (k:Sf b c m):Sf a c (n+m):=by
 obtain ⟨p,rfl,h⟩:=h;obtain ⟨q,rfl,k⟩:=k;exact ⟨p++q,by simp,by rw [aO];omega⟩
theorem Sf.le {a b:List Tok} {n m:Nat} (h:Sf a b n) (k:m<=n):Sf a b m:=by
 obtain ⟨p,rfl,h⟩:=h;exact ⟨p,rfl,by omega⟩
theorem Sf.ok {a b:List Tok} {n:Nat} (h:Sf a b n) (k:tU a):tU b:=by
 obtain ⟨p,rfl,h⟩:=h
 exact fun t ht=>k t (List.mem_append_right _ ht)
theorem Sf.aL {e:Int} {s:ah} {ts r:List Tok} (hs:s≠[]) (h:aL e s ts=.ok r):Sf ts r 1:=by
 obtain ⟨u,rfl,_⟩:=yQ hs h;exact .one u r
theorem Sf.sign {s:ah} {ts:List Tok} (hs:s≠[]) (h:sign ts 0=s):Sf ts ts.tail 1:=by
 obtain ⟨u,D,_⟩:=vT hs h;rw [D];exact .one u _
theorem S2 {s:ah} (h:nh s=false):words.contains s=false:=by
 unfold nh at h;rw [AB] at h
 cases hc:words.contains s with
 | false=>rfl
 | true =>
  rw [dz] at hc
  have:(words++bX).contains s=true:=by rw [dz];exact List.mem_append_left _ hc
  rw [h] at this;cases this
theorem Z1 {t:Tok} (h:CL t) (hk:t.kind=2) (hl:t.s.length<=12):bN t.s=true:=by
 obtain ⟨D,X⟩:=h.name hk;unfold bN;rw [D,S2 X];simpa using hl
theorem Sf.name {e:Int} {s:ah} {ts r:List Tok} (h:name e ts=.ok (s,r)) (ho:tU ts):Sf ts r 1/\bN s=true:=by
 obtain ⟨u,rfl,D,rfl,h3⟩:=Ie h;exact ⟨.one u r,Z1 (ho u mem_cons_self) D h3⟩
theorem U0 {s:ah} {k:Nat} (h:s∈levels.getD k []):ia s=true:=by
 unfold ia;rw [pG];rw [List.getD_eq_getElem?_getD] at h
 cases hk:levels[k]? with
 | none=>rw [hk] at h;simp at h
 | some l =>
  rw [hk] at h;exact ⟨l,br hk,by rw [dz];exact h⟩
theorem lf (k a:Int) (s:ah) (l:List T):bc (one k a s l)=aD l+1:=by unfold one;rw [bc]
theorem NJ.snoc {l:List T} {t:T} (h:NJ l) (k:EF t):NJ (l++[t]):=by
 obtain ⟨es,D,X⟩:=h;obtain ⟨a,h3,h4⟩:=k
 have key:∀ es:List E,E.dA es=true->E.dA (es++[a])=true/\E.trees (es++[a])=E.trees es++[a.tree]:=by
  intro es
  induction es with
  | nil=>intro _;simp [E.dA,E.trees,h3]
  | cons b es ih =>
   intro h;simp only [E.dA,aI] at h;obtain ⟨k1,k2⟩:=ih h.2;simp only [cons_append,E.dA,E.trees,k1,k2,h.1];simp
 exact zdH
def xM:wb->Nat
 | .loop _ _ out=>bc out
 | _=>0
def jok:wb->Prop
 | .loop _ _ out=>EF out
 | _=>True
theorem VY (e:Int):∀ f,(∀ j ts t r,tU ts->jok j->rd e f j ts=.ok (t,r)->EF t/\∃ n,Sf ts r n/\bc t<=n+xM j) /\
  (∀ d acc ts l r,tU ts->NJ acc->rd.args e f d acc ts=.ok (l,r)->NJ l/\∃ n,Sf ts r n/\aD l+1<=n+aD acc):=by
 intro f
 induction f with
 | zero=>exact ⟨fun j ts t r _ _ h=>by simp [rd] at h,fun d acc ts l r _ _ h=>by simp [rd.args] at h⟩
 | succ f ih =>
  obtain ⟨ih,Ak⟩:=ih;refine ⟨fun j ts t r ho hj h=>?_,fun d acc ts l r ho hj h=>?_⟩
  ·cases j with
   | expr d =>
    rw [rd] at h;split at h
    ·cases h
    ·exact ih (.level 0 (d+1)) ts t r ho trivial h
   | level k d =>
    rw [rd] at h;split at h
    ·exact ih (.operand d) ts t r ho trivial h
    ·split at h
     ·cases h
     ·rename_i out kv hx;obtain ⟨D,n,X,h3⟩:=ih (.level (k+1) d) ts out kv ho trivial hx;obtain ⟨k1,m,k2,k3⟩:=ih (.loop k d out) kv t r (X.ok ho) D h;exact ⟨k1,n+m,X.trans k2,by simp only [xM] at *;omega⟩
   | loop k d out =>
    cases ts with
    | nil=>rw [rd] at h;cases h;exact ⟨hj,0,.nil _,by simp only [xM];omega⟩
    | cons t0 r0 =>
     rw [rd] at h;split at h
     ·rename_i hc;split at h
      ·cases h
      ·rename_i b r1 hx;obtain ⟨⟨b',h0,D⟩,n,X,h3⟩:=ih (.level (k+1) d) r0 b r1 (fun t ht=>ho t (dm _ ht)) trivial hx;obtain ⟨o',h4,h5⟩:=hj;have h6:=(Sf.one t0 r0).trans X;obtain ⟨k1,m,k2,k3⟩:=ih (.loop k d (one 6 t0.at_ t0.s [out,b])) r1 t r (h6.ok ho) ⟨.bin t0.s o' b',by simp only [E.ok,U0 hc.2,h4,h0];rfl,by rw [ey,aZ,aZ,aZ,h5,D,E.tree]⟩ h;refine ⟨k1,_,h6.trans k2,?_⟩;exact zdN
     ·cases h;exact ⟨hj,0,.nil _,by simp only [xM];omega⟩
   | operand d =>
    cases ts with
    | nil =>
     rw [rd] at h;exact zeS
    | cons t0 r0 =>
     rw [rd] at h;split at h
     ·cases h
     ·have ho0:tU r0:=fun t ht=>ho t (dm _ ht)
      have vA:=Sf.one t0 r0;split at h
      ·split at h
       ·rename_i hu;split at h
        ·cases h
        ·rename_i a r1 hx;cases h;obtain ⟨⟨a',h0,D⟩,n,X,h3⟩:=ih (.operand (d+1)) r0 a r ho0 trivial hx;refine ⟨⟨.un t0.s a',?_,by rw [ey,aZ,aZ,D,E.tree]⟩,_,vA.trans X,?_⟩
         ·simp only [E.ok,h0]
          rcases hu with hu | hu | hu <;> simp [hu]
         ·exact zdN
       ·split at h
        ·split at h
         ·cases h
         ·rename_i a r1 hx;split at h
          ·cases h
          ·rename_i r2 hm;cases h;obtain ⟨D,n,X,h3⟩:=ih (.expr (d+1)) r0 t r1 ho0 trivial hx;exact ⟨D,_,(vA.trans X).trans (Sf.aL ao hm),by simp only [xM] at *;omega⟩
        ·cases h
      ·split at h
       ·rename_i hk;cases h;obtain ⟨k1,k2,k3⟩:=(ho t0 mem_cons_self).num hk;exact ⟨⟨.num t0.n,by simp only [E.ok];simp [k1,k2],by rw [er,aZ,E.tree]⟩,1,vA,by simp only [xM,bc,aD];omega⟩
       ·split at h
        ·cases h
        ·rename_i s r1 dq;obtain ⟨k1,k2⟩:=Sf.name dq ho;split at h
         ·rename_i hb;have k3:=k1.trans (Sf.sign ao hb);split at h
          ·cases h
          ·rename_i a r2 hx;split at h
           ·cases h
           ·rename_i r3 hm;cases h;obtain ⟨⟨a',h0,D⟩,n,X,h3⟩:=ih (.expr (d+1)) _ a r2 (k3.ok ho) trivial hx;refine ⟨⟨.at_ s a',by simp only [E.ok,k2,h0];rfl,by rw [ey,aZ,aZ,D,E.tree]⟩,_,(k3.trans X).trans (Sf.aL ao hm),?_⟩;exact zdN
         ·split at h
          ·rename_i hb;have k3:=k1.trans (Sf.sign ao hb);split at h
           ·cases h
           ·rename_i l r2 hx;cases h;obtain ⟨⟨es,h0,D⟩,n,X,h3⟩:=Ak _ _ _ l r (k3.ok ho) ⟨[],rfl,rfl⟩ hx;refine ⟨⟨.call s es,by simp only [E.ok,k2,h0];rfl,by rw [ey,D,E.tree]⟩,_,k3.trans X,?_⟩;exact zdN
          ·cases h;exact ⟨⟨.name s,by simp only [E.ok,k2],by rw [ey,aZ,E.tree]⟩,1,k1,by simp only [xM,lf,aD];omega⟩
  ·rw [rd.args] at h;split at h
   ·rename_i hc;cases h;exact ⟨hj,1,Sf.sign ao hc,by omega⟩
   ·split at h
    ·cases h
    ·rename_i AF hx
     have h0:Sf ts AF 0:=by
      split at hx
      ·cases hx;exact .nil _
      ·exact (Sf.aL ao hx).le (aX _)
     split at h
     ·cases h
     ·rename_i a yh hy;obtain ⟨D,n,X,h3⟩:=ih (.expr d) AF a yh (h0.ok ho) trivial hy;have h4:=h0.trans X;obtain ⟨k1,m,k2,k3⟩:=Ak _ (acc++[a]) yh l r (h4.ok ho) (hj.snoc D) h;refine ⟨k1,_,h4.trans k2,?_⟩;simp only [xM,pg,aD] at *;omega
theorem zN {e:Int} {d:Nat} {ts r:List Tok} {t:T} (ho:tU ts) (h:expr e d ts=.ok (t,r)):EF t/\Sf ts r (bc t):=by
 obtain ⟨D,n,X,h3⟩:=(VY e _).1 (.expr d) ts t r ho trivial h;exact ⟨D,X.le (by simpa [xM] using h3)⟩
theorem yG {e:Int} {d:Nat} {a b:ah} {ts r:List Tok} {t:T} (ha:a≠[]) (hb:b≠[]) (ho:tU ts) (h:inner e d a b ts=.ok (t,r)):EF t/\Sf ts r (bc t+2):=by
 unfold inner at h;split at h
 ·cases h
 ·rename_i AF D;have k1:=Sf.aL ha D;split at h
  ·cases h
  ·rename_i t' yh X;obtain ⟨k2,k3⟩:=zN (k1.ok ho) X;split at h
   ·cases h
   ·rename_i ts3 h3;cases h;exact ⟨k2,((k1.trans k3).trans (Sf.aL hb h3)).le aq⟩
theorem DI {e:Int} {d:Nat} {ts r:List Tok} {s:ah} {t:T} (ho:tU ts) (h:mV e d ts=.ok ((s,t),r)):bN s=true/\EF t/\Sf ts r (bc t+3):=by
 unfold mV at h;split at h
 ·cases h
 ·rename_i s' AF D;obtain ⟨k1,k2⟩:=Sf.name D ho;split at h
  ·cases h
  ·rename_i t' yh X;cases h;obtain ⟨k3,k4⟩:=yG ao ao (k1.ok ho) X;exact ⟨k2,k3,(k1.trans k4).le aq⟩
def SF (t:T):Prop:=∃ a:S,a.ok=true/\er t=a.tree
def NT (l:List T):Prop:=∃ es:List S,S.dA es=true/\aZ l=S.trees es
def BF (t:T):Prop:=∃ l:List S,S.dA l=true/\er t=cB l
theorem NT.snoc {l:List T} {t:T} (h:NT l) (k:SF t):NT (l++[t]):=by
 obtain ⟨es,D,X⟩:=h;obtain ⟨a,h3,h4⟩:=k
 have key:∀ es:List S,S.dA es=true->S.dA (es++[a])=true/\S.trees (es++[a])=S.trees es++[a.tree]:=by
  intro es
  induction es with
  | nil=>intro _;simp [S.dA,S.trees,h3]
  | cons b es ih =>
   intro h;simp only [S.dA,aI] at h;obtain ⟨k1,k2⟩:=ih h.2;simp only [cons_append,S.dA,S.trees,k1,k2,h.1];simp
 exact zdH
theorem SV {t:T} (h:EF t) (hk:t.n.kind=3):∃ (s:ah) (a:T),t.kids=[a]/\t.n.s=s/\bN s=true/\EF a:=by
 obtain ⟨a,D,X⟩:=h;have h3:=congrArg (fun x=>x.n.kind) X;simp only [zK,hk] at h3
 cases a with
 | at_ s b =>
  simp only [E.ok,aI] at D
  have h4:t.n.s=s:=by have:=congrArg (fun x=>x.n.s) X;simp only [zK] at this;exact this
  have h5:aZ t.kids=[b.tree]:=by rw [<-Vf,X];rfl
  match hl:t.kids,h5 with
  | [x],h5 =>
   rw [aZ,aZ] at h5
   injection h5 with h6
   exact ⟨s,x,rfl,h4,D.1,b,D.2,h6⟩
  | [],h5=>rw [aZ] at h5;cases h5
  | x::y::r,h5=>rw [aZ,aZ] at h5;injection h5 with h6 h7;cases h7
 | num n=>exact zeD
 | name n=>exact zeD
 | call s l=>exact zeD
 | un s a=>exact zeD
 | bin s a b=>exact zeD
theorem JR {e:Int} {d:Nat} {ts r:List Tok} {t:T} (ho:tU ts) (h:simple e d ts=.ok (t,r)):SF t/\Sf ts r (bc t):=by
 unfold simple at h;split at h
 ·exact zeS
 ·rename_i t0 r0;split at h
  ·split at h
   ·cases h
   ·rename_i s a AF D;cases h;obtain ⟨k1,⟨a',k2,k3⟩,k4⟩:=DI ho D;exact ⟨⟨.set s a',by simp only [S.ok,k1,k2];rfl,by rw [ey,aZ,aZ,k3,S.tree]⟩,k4.le zfG⟩
  ·split at h
   ·cases h
   ·rename_i a AF D;obtain ⟨k1,k2⟩:=zN ho D;split at h
    ·rename_i hc;split at h
     ·cases h
     ·rename_i v yh X;cases h;obtain ⟨⟨v',k3,k4⟩,k5⟩:=yG ao ao (k2.ok ho) X;obtain ⟨s,x,k6,k7,k8,x',k9,k10⟩:=SV k1 hc.1;have hz:=fa a;rw [k6] at hz;simp only [aD] at hz;rw [k6];refine ⟨⟨.put s x' v',by simp only [S.ok,k8,k9,k3];rfl,?_⟩,(k2.trans k5).le ?_⟩
      ·rw [ey,k7];simp only [take_succ_cons,take_zero,cons_append,nil_append,aZ,k10,k4,S.tree]
      ·simp only [take_succ_cons,take_zero,cons_append,nil_append,lf,aD];omega
    ·split at h
     ·cases h
     ·rename_i yh X;cases h;obtain ⟨a',k3,k4⟩:=k1;exact ⟨⟨.do_ a',by simp only [S.ok,k3],by rw [ey,aZ,aZ,k4,S.tree]⟩,(k2.trans (Sf.aL ao X)).le zfG⟩
theorem V1 (e:Int):∀ f,(∀ d ts t r,tU ts->rs e f (.block d) ts=.ok (t,r)->BF t/\Sf ts r (bc t))/\(∀ d ts t r,tU ts->rs e f (.stmt d) ts=.ok (t,r)->SF t/\Sf ts r (bc t)) /\
  (∀ d acc ts l r,tU ts->NT acc->rs.body e f d acc ts=.ok (l,r)->NT l/\∃ n,Sf ts r n/\aD l+1<=n+aD acc):=by
 intro f
 induction f with
 | zero=>exact ⟨fun d ts t r _ h=>by simp [rs] at h,fun d ts t r _ h=>by simp [rs] at h,fun d acc ts l r _ _ h=>by simp [rs.body] at h⟩
 | succ f ih =>
  obtain ⟨ihb,ihs,ihl⟩:=ih;refine ⟨fun d ts t r ho h=>?_,fun d ts t r ho h=>?_,fun d acc ts l r ho hj h=>?_⟩
  ·rw [rs] at h;split at h
   ·cases h
   ·split at h
    ·cases h
    ·rename_i r1 D;have k1:=Sf.aL ao D;split at h
     ·cases h
     ·rename_i l r2 X;cases h;obtain ⟨⟨es,k2,k3⟩,n,k4,k5⟩:=ihl _ [] r1 l r (k1.ok ho) ⟨[],rfl,rfl⟩ X;exact ⟨⟨es,k2,by rw [ey,k3,cB]⟩,(k1.trans k4).le (by simp only [lf,aD] at *;omega)⟩
  ·rw [rs] at h;split at h
   ·cases h
   ·simp only at h;split at h
    ·rename_i hs;have k0:=Sf.sign ao hs;split at h
     ·cases h
     ·rename_i s a AF D;cases h;obtain ⟨k1,⟨a',k2,k3⟩,k4⟩:=DI (k0.ok ho) D;exact ⟨⟨.var s a',by simp only [S.ok,k1,k2];rfl,by rw [ey,aZ,aZ,k3,S.tree]⟩,(k0.trans k4).le zfG⟩
    ·split at h
     ·rename_i hs
      have k0:Sf ts ts.tail 1:=by
       rcases hs with hs | hs
       ·exact Sf.sign ao hs
       ·exact Sf.sign ao hs
      split at h
      ·cases h
      ·rename_i c r1 D;obtain ⟨⟨c',k1,k2⟩,k3⟩:=yG ao ao (k0.ok ho) D;have k4:=k0.trans k3;split at h
       ·cases h
       ·rename_i b r2 X;obtain ⟨⟨lb,k5,k6⟩,k7⟩:=ihb _ _ b r2 (k4.ok ho) X;have k8:=k4.trans k7;split at h
        ·split at h
         ·rename_i fB;have k9:=k8.trans (Sf.sign ao fB);split at h
          ·cases h
          ·rename_i b2 r3 h3;cases h;obtain ⟨⟨lb2,j5,j6⟩,j7⟩:=ihb _ _ b2 r (k9.ok ho) h3;refine ⟨⟨.if2 c' lb lb2,by simp only [S.ok,k1,k5,j5];rfl,?_⟩,(k9.trans j7).le zfG⟩;rw [ey,aZ,aZ,aZ,aZ,k2,k6,j6,S.tree,cB,cB]
         ·cases h;refine ⟨⟨.if1 c' lb,by simp only [S.ok,k1,k5];rfl,?_⟩,k8.le zfG⟩;rw [ey,aZ,aZ,aZ,k2,k6,S.tree,cB]
        ·cases h;refine ⟨⟨.while_ c' lb,by simp only [S.ok,k1,k5];rfl,?_⟩,k8.le zfG⟩;rw [ey,aZ,aZ,aZ,k2,k6,S.tree,cB]
     ·split at h
      ·rename_i hs;have k0:=Sf.sign ao hs;split at h
       ·cases h
       ·rename_i a AF D;obtain ⟨⟨a',k1,k2⟩,k3⟩:=zN (k0.ok ho) D;split at h
        ·cases h
        ·rename_i yh X;cases h;exact ⟨⟨.ret a',by simp only [S.ok,k1],by rw [ey,aZ,aZ,k2,S.tree]⟩,((k0.trans k3).trans (Sf.aL ao X)).le zfG⟩
      ·exact JR ho h
  ·rw [rs.body] at h;split at h
   ·rename_i hc;cases h;exact ⟨hj,1,Sf.sign ao hc,by omega⟩
   ·split at h
    ·cases h
    ·rename_i a AF D;obtain ⟨k1,k2⟩:=ihs _ ts a AF ho D;obtain ⟨k3,m,k4,k5⟩:=ihl _ (acc++[a]) AF l r (k2.ok ho) (hj.snoc k1) h;refine ⟨k3,_,k2.trans k4,?_⟩;simp only [pg,aD] at *;omega
theorem Md {e:Int} {d:Nat} {ts r:List Tok} {t:T} (ho:tU ts) (h:block e d ts=.ok (t,r)):BF t/\Sf ts r (bc t):=(V1 e _).1 _ ts t r ho h
end Go.Im
namespace Go.Sp
open Go.Xp
def eV (x:ah) (l:List K):Prop:=∀ pre post:ah,∃ ts,ts.map kf=l/\Tz (pre++(x++post)) pre.length ts (pre.length+x.length)
def jh (x:ah) (l:List K):Prop:=∀ pre post:ah,Sep post->∃ ts,ts.map kf=l/\Tz (pre++(x++post)) pre.length ts (pre.length+x.length)
theorem eV.s {x:ah} {l:List K} (h:eV x l):jh x l:=fun pre post _=>h pre post
theorem eV.app {x y:ah} {l m:List K} (h:eV x l) (k:eV y m):eV (x++y) (l++m):=by
 intro pre post;obtain ⟨ts,D,X⟩:=h pre (y++post);obtain ⟨us,h3,h4⟩:=k (pre++x) post;exact zbl
theorem eV.apps {x y:ah} {l m:List K} (h:eV x l) (k:jh y m):jh (x++y) (l++m):=by
 intro pre post hp;obtain ⟨ts,D,X⟩:=h pre (y++post);obtain ⟨us,h3,h4⟩:=k (pre++x) post hp;exact zbl
theorem jh.GZ {x y:ah} {l m:List K} (h:jh x l) (k:eV y m) (hs:∀ post,Sep (y++post)):eV (x++y) (l++m):=by
 intro pre post;obtain ⟨ts,D,X⟩:=h pre (y++post) (hs post);obtain ⟨us,h3,h4⟩:=k (pre++x) post;exact zbl
theorem eV.nil:eV [] []:=fun pre post=>⟨[],rfl,.nil _⟩
theorem Az {c:UInt8} {x:ah} (h:c∈EJ):∀ post,Sep (c::x++post):=fun post d hd=>by cases hd;exact h
theorem vi {pre x:ah}:(pre++x).drop pre.length=x:=drop_left
theorem Tz.one {s:ah} {a a':Nat} {c:UInt8} {t:Tok} (hc:s[a]?=some c) (hb:fu c=false) (hr:bY s a [47,42]=false) (ht:gw s a c=(t,a')) (hk:t.kind=1\/t.kind=2\/t.kind=3) (hn:t.n<=2147483647) (ha:a < a'):Tz s a [t] a' :=
 .tok hc hb hr ht hk hn ha (.nil _)
theorem Ap {c:UInt8} (h:fu c=true):eV [c] []:=by
 intro pre post;have hd:(pre++([c]++post)).drop pre.length=c::post:=vi;obtain ⟨D,_,_⟩:=pd hd;exact ⟨[],rfl,.blank D h (.nil _)⟩
theorem ox {c:UInt8} (hm:c∈[40,41,91,93,44,59,123,125]):eV [c] [kS [c]]:=by
 intro pre post;have hd:(pre++([c]++post)).drop pre.length=c::post:=vi;obtain ⟨D,_,h4⟩:=pd hd;obtain ⟨X,h3,h5⟩:=RN (Nat.le_of_lt h4) hd hm;exact ⟨[_],rfl,Tz.one D h3 h5 X zfu zfu zfu⟩
theorem Cw {w:ah} (hm:w∈bX):jh w [kS w]:=by
 intro pre post hp;have hd:(pre++(w++post)).drop pre.length=w++post:=vi
 have bT:w≠[]:=by rintro rfl;revert hm;decide
 obtain ⟨c,r,hw⟩:=List.exists_cons_of_ne_nil bT;have oP:=hd;rw [hw,cons_append] at oP;obtain ⟨D,_,h4⟩:=pd oP;rw [<-cons_append,<-hw] at D h4;obtain ⟨X,h3,h5⟩:=S4 (Nat.le_of_lt h4) hd hw hm hp
 have:0 < w.length:=by rw [hw];simp
 exact ⟨[_],rfl,Tz.one D h3 h5 X zfu zfu aq⟩
theorem JT {c:UInt8} (h:small c=true):fu c=false/\c≠47:=by
 simp only [small,aI] at h;have D:=nD h.1;refine ⟨?_,fun h0=>?_⟩
 ·exact zeV
 ·subst h0;revert D;decide
theorem F0 {s r:ah} {a:Nat} {c:UInt8} (h:s.drop a=c::r) (hc:c≠47):bY s a [47,42]=false:=by
 obtain ⟨_,_,h4⟩:=pd h;rw [wY h (Nat.le_of_lt h4)];simp only [List.isPrefixOf]
 have:((47:UInt8)==c)=false:=by rw [beq_eq_false_iff_ne];exact fun h=>hc h.symm
 rw [this,Bool.false_and]
theorem H6 {w:ah} (hw:word w=true):jh w [if words.contains w then kS w else kN w]:=by
 intro pre post hp;have hd:(pre++(w++post)).drop pre.length=w++post:=vi;simp only [word,aI,gP] at hw
 match w,hw,hd with
 | [],hw,_=>simp at hw
 | c::r,hw,hd =>
  obtain ⟨ba,hs⟩:=hw;have oP:=hd;rw [cons_append] at oP;obtain ⟨D,_,h4⟩:=pd oP;obtain ⟨h3,h5⟩:=JT hs;have ht:=Tn (Nat.le_of_lt h4) hd rfl hs ba hp.eJ;refine ⟨[_],?_,Tz.one D h3 (F0 oP h5) ht ?_ zfu zfu⟩
  ·simp only [List.map_cons,List.map_nil,kf,kS,kN];split <;> rfl
  ·simp only;split <;> simp
theorem l7 {w:ah} (hw:bN w=true):jh w [kN w]:=by
 simp only [bN,aI,Bool.not_eq_true'] at hw;have:=H6 hw.1.1;rw [ab (by rw [hw.2];decide)] at this;exact this
theorem P5 {w:ah} (hw:w∈words):jh w [kS w]:=by
 have D:∀ w∈words,word w=true:=by decide
 have:=H6 (D w hw);rw [ae (by simpa using hw)] at this;exact this
theorem Ll {n:Nat} (hn:n<=2147483647):jh (gJ n) [kI n]:=by
 intro pre post hp;have hd:(pre++(gJ n++post)).drop pre.length=gJ n++post:=vi;obtain ⟨D,X,h3⟩:=Ke n;obtain ⟨c,r,hw⟩:=List.exists_cons_of_ne_nil h3;have oP:=hd;rw [hw,cons_append] at oP;obtain ⟨h4,_,h5⟩:=pd oP;rw [<-cons_append,<-hw] at h4 h5;have hc:ew c=true:=D c (by rw [hw];exact mem_cons_self)
 have FE:fu c=false/\c≠47:=by
  simp only [ew,aI] at hc;have D:=nD hc.1;refine ⟨?_,fun h0=>?_⟩
  ·exact zeV
  ·subst h0;revert D;decide
 have ht:=VP (Nat.le_of_lt h5) hd hw hn hp.ew
 have:0 < (gJ n).length:=by rw [hw];simp
 refine ⟨[_],rfl,Tz.one h4 FE.1 ?_ ht zfu (by simpa using by omega) aq⟩;have Xz:=oP;rw [<-cons_append,<-hw] at Xz;rw [hw] at Xz |-;exact F0 Xz FE.2
theorem Yj {s:ah} (h:ia s=true):s∈bX:=by
 have hm:s∈levels.flatten:=by
  exact zcI
 have key:∀ s∈levels.flatten,s∈bX:=by decide
 exact key s hm
theorem Nw:eV [32] []:=Ap ao
theorem jh.then {x:ah} {l:List K} (h:jh x l) {c:UInt8} (hm:c∈[40,41,91,93,44,59,123,125]):eV (x++[c]) (l++[kS [c]]) :=
 h.GZ (ox hm) (Az (by revert hm;unfold EJ;simp only [List.mem_cons,List.not_mem_nil,or_false];rintro (h | h | h | h | h | h | h | h) <;> simp [h]))
theorem jh.sp {x:ah} {l:List K} (h:jh x l):eV (x++[32]) l:=by
 have:=h.GZ Nw (Az ao);rw [ef] at this;exact this
theorem jh.eq {x:ah} {l l':List K} (h:jh x l) (e:l=l'):jh x l':=e ▸ h
theorem eV.eq {x:ah} {l l':List K} (h:eV x l) (e:l=l'):eV x l':=e ▸ h
theorem Et {lv k:Nat} {x:ah} {l:List K} (h:jh x l):jh (sC lv k x) (brk lv k l):=by
 unfold sC brk;split
 ·have:=((ox (c:=40) ao).apps h).then (c:=41) ao;exact this.s.eq zfu
 ·exact h
mutual
theorem rn:∀ a:E,a.ok=true->jh a.bF a.tk
 | .num n,h=>by
  simp only [E.ok,aI] at h;have D:=nD h.1;have X:=nD h.2;have:=Ll (n:=n.toNat) aq;rw [E.bF,E.tk];rw [Int.toNat_of_nonneg D] at this;exact this
 | .name s,h=>by rw [E.bF,E.tk];exact l7 h
 | .at_ s a,h=>by
  simp only [E.ok,aI] at h;rw [E.bF,E.tk];exact ((((l7 h.1).then (c:=91) ao).apps (rn a h.2)).then (c:=93) ao).s.eq zfu
 | .call s l,h=>by
  simp only [E.ok,aI] at h;rw [E.bF,E.tk];exact ((((l7 h.1).then (c:=40) ao).apps (ZS l h.2)).then (c:=41) ao).s.eq zfu
 | .un s a,h=>by
  simp only [E.ok,aI,Bool.or_eq_true,beq_iff_eq] at h;rw [E.bF,E.tk]
  have hs:s∈bX:=by rcases h.1 with (h | h) | h <;> (rw [h];decide)
  exact ((Cw hs).sp.apps (Et (rn a h.2))).eq zfu
 | .bin s a b,h=>by
  simp only [E.ok,aI] at h;rw [E.bF,E.tk];exact ((((Et (rn a h.1.2)).sp.apps (Cw (Yj h.1.1))).sp).apps (Et (rn b h.2))).eq zfu
theorem ZS:∀ l:List E,E.dA l=true->jh (cr (E.dy l)) (E.o9 l)
 | [],_=>eV.nil.s
 | a::l,h=>by
  simp only [E.dA,aI] at h;rw [E.dy,E.o9,cr];exact Ut l h.2 _ _ (rn a h.1)
theorem Ut:∀ l:List E,E.dA l=true->∀ x m,jh x m->jh (x++(E.dy l).flatMap fun y=>44::32::y) (m++E.su l)
 | [],_,x,m,hx=>by rw [E.dy,E.su];simpa using hx
 | a::l,h,x,m,hx=>by
  simp only [E.dA,aI] at h;have D:=((hx.then (c:=44) ao).app Nw).apps (rn a h.1);have X:=Ut l h.2 _ _ D;rw [E.dy,E.su,flatMap_cons]
  have e1:x++((44::32::a.bF)++(E.dy l).flatMap fun y=>44::32::y)=(x++[44]++[32]++a.bF)++(E.dy l).flatMap fun y=>44::32::y:=by simp
  rw [e1];exact X.eq zfu
end
theorem jh.set {x:ah} {l:List K} (h:jh x l):eV (x++[32,61,32]) (l++[kS [61]]):=by
 have:=(h.sp.apps (Cw (w:=[61]) ao)).sp;exact zbT
theorem wD {w:ah} (hw:w∈words):eV (w++[32]) [kS w]:=(P5 hw).sp
mutual
theorem ZT:∀ s:S,s.ok=true->eV (s.bF E.bF) s.tk
 | .set s a,h=>by
  simp only [S.ok,aI] at h;rw [S.bF,S.tk];exact (((l7 h.1).set.apps (rn a h.2)).then (c:=59) ao).eq zfu
 | .put s a b,h=>by
  simp only [S.ok,aI] at h;rw [S.bF,S.tk];have D:=((((l7 h.1).then (c:=91) ao).apps (rn a h.2.1)).then (c:=93) ao).s.set;have X:=(D.apps (rn b h.2.2)).then (c:=59) ao
  have e:s++[91]++a.bF++[93,32,61,32]++b.bF++[59]=s++[91]++a.bF++[93]++[32,61,32]++b.bF++[59]:=by simp
  rw [e];exact X.eq zfu
 | .if1 c b,h=>by
  simp only [S.ok,aI] at h;rw [S.bF,S.tk];have D:=((((wD (w:=[105,102]) ao).app (ox (c:=40) ao)).apps (rn c h.1)).then (c:=41) ao).s.sp;have X:=D.app (lexB b h.2)
  have e:[105,102,32,40]++c.bF++[41,32]++(S.dy E.bF [123,32] b++[125])=[105,102]++[32]++[40]++c.bF++[41]++[32]++(S.dy E.bF [123,32] b++[125]):=by simp
  rw [e];exact X.eq (by simp [gE])
 | .if2 c b b2,h=>by
  simp only [S.ok,aI] at h;rw [S.bF,S.tk];have D:=((((wD (w:=[105,102]) ao).app (ox (c:=40) ao)).apps (rn c h.1)).then (c:=41) ao).s.sp;have X:=D.app (lexB b h.2.1);have h3:=((X.s.sp.apps (P5 (w:=[101,108,115,101]) ao)).sp).app (lexB b2 h.2.2)
  have e:[105,102,32,40]++c.bF++[41,32]++(S.dy E.bF [123,32] b++[125])++[32,101,108,115,101,32]++(S.dy E.bF [123,32] b2++[125])=[105,102]++[32]++[40]++c.bF++[41]++[32]++(S.dy E.bF [123,32] b++[125])++[32]++[101,108,115,101]++[32]++(S.dy E.bF [123,32] b2++[125]):=by simp
  rw [e];exact h3.eq (by simp [gE,ju])
 | .while_ c b,h=>by
  simp only [S.ok,aI] at h;rw [S.bF,S.tk];have D:=((((wD (w:=[119,104,105,108,101]) ao).app (ox (c:=40) ao)).apps (rn c h.1)).then (c:=41) ao).s.sp;have X:=D.app (lexB b h.2)
  have e:[119,104,105,108,101,32,40]++c.bF++[41,32]++(S.dy E.bF [123,32] b++[125])=[119,104,105,108,101]++[32]++[40]++c.bF++[41]++[32]++(S.dy E.bF [123,32] b++[125]):=by simp
  rw [e];exact X.eq (by simp [ig])
 | .ret a,h=>by
  simp only [S.ok] at h;rw [S.bF,S.tk];have D:=((wD (w:=[114,101,116,117,114,110]) ao).apps (rn a h)).then (c:=59) ao;exact D.eq (by simp [gU])
 | .do_ a,h=>by
  simp only [S.ok] at h;rw [S.bF,S.tk];exact (rn a h).then (c:=59) ao
 | .var s a,h=>by
  simp only [S.ok,aI] at h;rw [S.bF,S.tk];have D:=((((wD (w:=[118,97,114]) ao).apps (l7 h.1)).set).apps (rn a h.2)).then (c:=59) ao;exact D.eq (by simp [nB])
theorem lexB:∀ l:List S,S.dA l=true->eV (S.dy E.bF [123,32] l++[125]) (kS [123]::(S.o9 l++[kS [125]]))
 | l,h=>by
  have h0:eV [123,32] [kS [123]]:=by
   have:=(ox (c:=123) ao).s.sp;exact zbT
  exact ((Uu l h _ _ h0).s.then (c:=125) ao).eq zfu
theorem Uu:∀ l:List S,S.dA l=true->∀ acc m,eV acc m->eV (S.dy E.bF acc l) (m++S.o9 l)
 | [],_,acc,m,h=>by rw [S.dy,S.o9,ef];exact h
 | a::l,ho,acc,m,h=>by
  simp only [S.dA,aI] at ho;rw [S.dy,S.o9];have D:=(h.app (ZT a ho.1)).s.sp;exact (Uu l ho.2 _ _ D).eq zfu
end
theorem eV.all {x:ah} {l:List K} (h:eV x l):∃ ts,ts.map kf=l/\Tz x 0 ts x.length:=by
 obtain ⟨ts,D,X⟩:=h [] [];exact ⟨ts,D,by simpa using X⟩
theorem Lj {l:List S} (h:S.dA l=true):eV (gA E.bF l) (Mc l):=lexB l h
end Go.Sp
namespace Go.Im
open Go.Xp Go.Sp
def O0 (s:ah):List K:=[kS jc,kN s,kS [59]]
def J0 (a:Ar):List K:=[kS jc,kN a.name,kS [91],kI a.size,kS [93],kS [59]]
def xb:List ah->List K
 | []=>[]
 | s::r=>kS [44]::kN s::xb r
def Io:List ah->List K
 | []=>[]
 | s::r=>kN s::xb r
def Kp (x:Fn × List S):List K:=kS jv::kN x.1.name::kS [40]::(Io x.1.params++kS [41]::Mc x.2)
def nL (x:Fn × List S):ah:=((((([102,117,110,99,32]++x.1.name)++[40])++cr x.1.params)++[41,32])++gA E.bF x.2)++[10]
theorem Lk:eV [59,10] [kS [59]]:=(ox (c:=59) ao).app (Ap (c:=10) ao)
theorem ZW {s:ah} (h:bN s=true):eV (g1 s) (O0 s) :=
 ((wD (w:=jc) ao).apps (l7 h)).GZ Lk (Az (c:=59) (x:=[10]) ao)
theorem ZU {a:Ar} (h:qB a=true):eV (a1 a) (J0 a):=by
 unfold qB at h;simp only [aI,Bool.not_eq_true',decide_eq_false_iff_not] at h;obtain ⟨⟨D,X⟩,h3⟩:=h
 have hz:rb a.size=gJ a.size.toNat:=by unfold rb;rw [ab X]
 have hk:kI a.size=kI ((a.size.toNat:Nat):Int):=by rw [Int.toNat_of_nonneg aq]
 have x1:=((wD (w:=jc) ao).apps (l7 D)).then (c:=91) ao;have x2:=x1.apps (Ll (n:=a.size.toNat) aq);have x3:=x2.GZ ((ox (c:=93) ao).app Lk) (Az (c:=93) (x:=[59,10]) ao);unfold a1 J0;rw [hz,hk];exact x3
theorem P6:∀ (ps:List ah),de ps=true->∀ x m,jh x m->jh (x++ps.flatMap fun y=>44::32::y) (m++xb ps)
 | [],_,x,m,h=>by rw [List.flatMap_nil,ef,xb,ef];exact h
 | s::r,hp,x,m,h=>by
  unfold de at hp;rw [all_cons,aI] at hp;have D:=(h.then (c:=44) ao).app Nw;have X:=D.apps (l7 hp.1);have h3:=P6 r hp.2 _ _ X;rw [flatMap_cons,xb];refine jh.eq (cast (congrArg (fun z=>jh z _) ?_) h3) ?_
  ·simp
  ·simp
theorem ZX {ps:List ah} (h:de ps=true):jh (cr ps) (Io ps):=by
 match ps,h with
 | [],_=>exact eV.nil.s
 | s::r,h =>
  unfold de at h;rw [all_cons,aI] at h;exact P6 r h.2 s [kN s] (l7 h.1)
theorem ZV {x:Fn × List S} (D:bN x.1.name=true) (X:de x.1.params=true) (h3:S.dA x.2=true):eV (nL x) (Kp x):=by
 have x1:=((wD (w:=jv) ao).apps (l7 D)).then (c:=40) ao;have x2:=(x1.apps (ZX X)).GZ ((ox (c:=41) ao).app Nw) (Az (c:=41) (x:=[32]) ao);have x3:=(x2.app (Lj h3)).app (Ap (c:=10) ao);refine eV.eq x3 ?_;simp [Kp]
theorem A5 {α:Type} {f:α->ah} {k:α->List K}:∀ (l:List α),(∀ x∈l,eV (f x) (k x))->∀ acc m,eV acc m->eV (dV f acc l) (m++l.flatMap k)
 | [],_,acc,m,h=>by rw [dV,List.flatMap_nil,ef];exact h
 | x::l,hl,acc,m,h=>by
  rw [dV,flatMap_cons,<-fP];exact A5 l (fun y hy=>hl y (dm _ hy)) _ _ (h.app (hl x mem_cons_self))
theorem Oe {inl:List ah->Nat->ah}:∀ (fns:List Fn) (l:List T) (ls:List (List S)) (acc:ah),ls.length=l.length->(∀ (i:Nat) t b,l[i]?=some t->ls[i]?=some b->py dG inl 0 t=gA E.bF b) ->
  dV (dH dG inl) acc (fns.zip l)=dV nL acc (fns.zip ls)
 | [],l,ls,acc,_,_=>by simp [dV]
 | f::r,[],[],acc,_,_=>by simp [dV]
 | f::r,t::l,b::ls,acc,hl,h=>by
  have h0:=h 0 t b rfl rfl;rw [zip_cons_cons,zip_cons_cons,dV,dV,Oe r l ls _ zfz fun i t' b' D X=>h (i+1) t' b' zfD zfM];simp only [dH,nL,h0]
 | f::r,[],b::ls,acc,hl,_=>by simp at hl
 | f::r,t::l,[],acc,hl,_=>by simp at hl
section
variable {p q:RS} {ts r rest:List Tok} {u:Tok} {s:ah}
theorem sw (h:On p (u::r)):tok p 0=u:=by rw [On.tok h];rfl
theorem Cn (h:On p (u::r)) (hk:kf u=kS s):is p 0 s=true:=by
 obtain ⟨D,X⟩:=eR hk;unfold is;rw [sw h,D,X];simp
theorem ML (h:On p (u::r)) {k:K} (hk:kf u=k) (hn:k.1=3->k.2.2≠s):is p 0 s=false:=by
 unfold is;rw [sw h];subst hk
 by_cases h3:u.kind=3
 ·have:=hn h3;simp only [kf] at this;simp [h3,this]
 ·simp [h3]
theorem vZ (h:On p (u::r)) (hk:kf u=kS s):want p s=p.next:=by unfold want;rw [ae h.code,ae (Cn h hk)]
theorem Au (h:On p (u::r)) (hk:kf u=kN s) (hl:bN s=true):bI p=p.next:=by
 obtain ⟨D,X⟩:=sf hk;have:=oy hl;unfold bI;rw [ae h.code,sw h,ae D,ab (by rw [X];omega)]
theorem nx (h:On p (u::r)):On p.next r:=h.next.1
theorem fc (h:On p (u::r)):p.next.l=p.l/\p.next.e=p.e:=⟨h.next.2.1,h.next.2.2⟩
theorem abR (h:On p (u::r)):p.i < p.l.length:=by
 have:=congrArg List.length h.rest;rw [kA,length_cons] at this;omega
theorem Ym (h:On p []):¬ p.i < p.l.length:=by
 have:=congrArg List.length h.rest;rw [kA,length_nil] at this;omega
theorem K5 {acK f:Nat} {st:PS} (h:p.code≠0) (hg:1<=acK):pC acK f p st=some (p,st):=by
 obtain ⟨acK,rfl⟩:∃ g',acK=g'+1:=⟨acK - 1,by omega⟩;rw [pC,ab (fun hc=>h hc.1)]
theorem A3 {f:Nat} {acc:List ah} (h:p.code≠0) (hg:1<=f):qU f acc p=some (acc,p):=by
 obtain ⟨f,rfl⟩:∃ g',f=g'+1:=⟨f - 1,by omega⟩;rw [qU,ab (fun hc=>h hc.1),gY h]
end
theorem abM {f:Nat} {p:RS} {st:PS} {ts rest:List Tok} {s:ah} (hp:On p (ts++rest)) (ht:ts.map kf=O0 s) (hs:bN s=true) :
  ∃ q,iW f p st=some (q,{ st with globals:=st.globals++[s] })/\b9 p q (.ok rest):=by
 obtain ⟨u,r,rfl,D,ht⟩:=map_cons ht;obtain ⟨v,r,rfl,X,ht⟩:=map_cons ht;obtain ⟨w,rfl,h3⟩:=jD ht;simp only [cons_append,nil_append] at hp;have p1:=nx hp;have p2:=nx p1;have p3:=nx p2;refine ⟨p.next.next.next,?_,p3,by rw [(fc p2).1,(fc p1).1,(fc hp).1],by rw [(fc p2).2,(fc p1).2,(fc hp).2]⟩;unfold iW;rw [ae (Cn hp D),Au p1 X hs,ML p2 h3 ao,ab (by rintro ⟨_,h⟩;cases h),vZ p2 h3,sw p1,(sf X).2]
theorem abK {f:Nat} {p:RS} {st:PS} {ts rest:List Tok} {a:Ar} (hp:On p (ts++rest)) (ht:ts.map kf=J0 a) (hs:bN a.name=true) :
  ∃ q,iW f p st=some (q,{ st with arrays:=st.arrays++[a] })/\b9 p q (.ok rest):=by
 obtain ⟨u,r,rfl,D,ht⟩:=map_cons ht;obtain ⟨v,r,rfl,X,ht⟩:=map_cons ht;obtain ⟨w,r,rfl,h3,ht⟩:=map_cons ht;obtain ⟨x,r,rfl,h4,ht⟩:=map_cons ht;obtain ⟨y,r,rfl,h5,ht⟩:=map_cons ht;obtain ⟨z,rfl,h6⟩:=jD ht;simp only [cons_append,nil_append] at hp;have p1:=nx hp;have p2:=nx p1;have p3:=nx p2;have p4:=nx p3;have p5:=nx p4;have p6:=nx p5;refine ⟨p.next.next.next.next.next.next,?_,p6,by rw [(fc p5).1,(fc p4).1,(fc p3).1,(fc p2).1,(fc p1).1,(fc hp).1],by rw [(fc p5).2,(fc p4).2,(fc p3).2,(fc p2).2,(fc p1).2,(fc hp).2]⟩;unfold iW;rw [ae (Cn hp D),Au p1 X hs,ae ⟨p2.code,Cn p2 h3⟩,sw p3,ae (Se h4).1,vZ p4 h5,vZ p5 h6,sw p1,(sf X).2,(Se h4).2]
theorem Uo {rest:List Tok} {u:Tok} (hu:kf u=kS [41]):∀ (ps:List ah) (f:Nat) (acc:List ah) (p:RS) (ts:List Tok),ps.length < f->acc≠[]->de ps=true->On p (ts++u::rest)->ts.map kf=xb ps ->
  ∃ q,qU f acc p=some (acc++ps,q)/\b9 p q (.ok rest)
 | [],f,acc,p,ts,hf,ha,_,hp,ht=>by
  obtain ⟨f,rfl⟩:∃ g',f=g'+1:=⟨f - 1,by omega⟩
  have:ts=[]:=by simpa [xb] using ht
  subst this;rw [nil_append] at hp;refine ⟨p.next,?_,nx hp,fc hp⟩;rw [qU,ab zgw,vZ hp hu,ef]
 | s::ps,f,acc,p,ts,hf,ha,hn,hp,ht=>by
  obtain ⟨f,rfl⟩:∃ g',f=g'+1:=⟨f - 1,by omega⟩;rw [xb] at ht;obtain ⟨v,r,rfl,D,ht⟩:=map_cons ht;obtain ⟨w,r,rfl,X,ht⟩:=map_cons ht;unfold de at hn;rw [all_cons,aI] at hn;simp only [cons_append] at hp;have p1:=nx hp;have p2:=nx p1
  have Xo:acc.length≠0:=fun h=>ha (gx h)
  rw [length_cons] at hf
  obtain ⟨q,h3,h4⟩:=Uo hu ps f (acc++[s]) p.next.next r aq zfu hn.2 p2 ht
  refine ⟨q,?_,h4.1,by rw [h4.2.1,(fc p1).1,(fc hp).1],by rw [h4.2.2,(fc p1).2,(fc hp).2]⟩;rw [qU,ae ⟨hp.code,ML hp D ao⟩,ab Xo,vZ hp D,sw p1,(sf X).2,Au p1 X hn.1,h3];simp
theorem ZJ {rest:List Tok} {u:Tok} (hu:kf u=kS [41]) (ps:List ah) (f:Nat) (p:RS) (ts:List Tok) (hf:ps.length < f) (hn:de ps=true) (hp:On p (ts++u::rest)) (ht:ts.map kf=Io ps) :
  ∃ q,qU f [] p=some (ps,q)/\b9 p q (.ok rest):=by
 obtain ⟨f,rfl⟩:∃ g',f=g'+1:=⟨f - 1,by omega⟩
 match ps,hn,ht,hf with
 | [],_,ht,_ =>
  have:ts=[]:=by simpa [Io] using ht
  subst this;rw [nil_append] at hp;refine ⟨p.next,?_,nx hp,fc hp⟩;rw [qU,ab zgw,vZ hp hu]
 | s::ps,hn,ht,hf =>
  rw [Io] at ht;obtain ⟨w,r,rfl,X,ht⟩:=map_cons ht;unfold de at hn;rw [all_cons,aI] at hn;simp only [cons_append] at hp;have p2:=nx hp;rw [length_cons] at hf
  obtain ⟨q,h3,h4⟩:=Uo hu ps f ([]++[s]) p.next r aq zfu hn.2 p2 ht
  refine ⟨q,?_,h4.1,by rw [h4.2.1,(fc hp).1],by rw [h4.2.2,(fc hp).2]⟩;rw [qU,ae ⟨hp.code,ML hp X (fun h=>by cases h)⟩,ae (by rfl),sw hp,(sf X).2,Au hp X hn.1,h3];rfl
def fW (p:RS):Nat:=40 * p.l.length+100
theorem Ip:∀ ps:List ah,ps.length<=(xb ps).length
 | []=>aX _
 | s::r=>by have:=Ip r;rw [xb,length_cons,length_cons,length_cons];omega
theorem VR (ps:List ah):ps.length<=(Io ps).length:=by
 cases ps with
 | nil=>exact aX _
 | cons s r=>have:=Ip r;rw [Io,length_cons,length_cons];omega
theorem On.len {p:RS} {ts:List Tok} (h:Go.Sp.On p ts):ts.length<=p.l.length:=by
 rw [<-h.rest,kA];omega
theorem X9 {f:Nat} {q:RS} {ts:List Tok} (hq:Go.Sp.On q ts) (hs:u9 q.l) (hf:fW q<=f):∃ t q',iS f (.block 1) q=some (t,q')/\kR q q' t (block q.e 1 ts):=by
 obtain ⟨t,q',D,X⟩:=(is_ (oN ts)).block 1 ts q hq hs yl;have:=On.len hq;exact ⟨t,q',D f (by unfold KI oN;unfold fW at hf;omega),X⟩
theorem abL {f:Nat} {p:RS} {st:PS} {ts rest:List Tok} {x:Fn × List S} (hp:On p (ts++rest)) (hs:u9 p.l) (hf:fW p<=f) (ht:ts.map kf=Kp x) (D:bN x.1.name=true) (X:de x.1.params=true) (h3:S.dA x.2=true) :
  (fG x.2 1=true->∃ q t,iW f p st=some (q,{ st with trees:=st.trees++[t],fns:=st.fns++[(x.1.name,x.1.params)] })/\er t=cB x.2/\b9 p q (.ok rest)) /\
  (fG x.2 1=false->∃ q eP,iW f p st=some (q,eP)/\q.code≠0):=by
 obtain ⟨u,r,rfl,k1,ht⟩:=map_cons ht;obtain ⟨v,r,rfl,k2,ht⟩:=map_cons ht;obtain ⟨w,r,rfl,k3,ht⟩:=map_cons ht;obtain ⟨A,r,rfl,k4,ht⟩:=dT ht;obtain ⟨y,r,rfl,k5,ht⟩:=map_cons ht;simp only [cons_append,fP] at hp;have p1:=nx hp;have p2:=nx p1;have p3:=nx p2
 have hl:p.next.next.next.l=p.l:=by rw [(fc p2).1,(fc p1).1,(fc hp).1]
 have hA:x.1.params.length<=A.length:=by have:=VR x.1.params;rw [<-k4,cj] at this;exact this
 have c8:=On.len p3;simp only [aO] at c8;rw [hl] at c8
 have Pg:x.1.params.length < f:=by unfold fW at hf;omega
 obtain ⟨q,h4,h5⟩:=ZJ k5 x.1.params f p.next.next.next A Pg X p3 k4
 have qy:q.l=p.l:=h5.2.1.trans hl;obtain ⟨t,q',h6,h7⟩:=X9 (f:=f) h5.1 zf3 zfP;obtain ⟨r1,r2⟩:=G2 (e:=q.e) (d:=1) (rest:=rest) h3 ht
 have hw:iW f p st=some (q',{ st with trees:=st.trees++[t],fns:=st.fns++[(x.1.name,x.1.params)] }):=by
  unfold iW;rw [ab (by rw [ML hp k1 ao];decide),ae (Cn hp k1),Au p1 k2 D,vZ p2 k3,h4];simp only;rw [ae h5.1.code,h6,sw p1,(sf k2).2]
 refine ⟨fun w9=>?_,fun w9=>?_⟩
 ·obtain ⟨t',j1,j2⟩:=r1 w9;rw [j2] at h7;obtain ⟨rfl,j3⟩:=h7;exact ⟨q',t,hw,j1,j3.1,j3.2.1.trans qy,j3.2.2.trans (h5.2.2.trans (by rw [(fc p2).2,(fc p1).2,(fc hp).2]))⟩
 ·obtain ⟨pos,j2⟩:=r2 w9;rw [j2] at h7;exact ⟨q',_,hw,b9.err h7⟩
theorem sW {acK f:Nat} {p q:RS} {st eP:PS} {u:Tok} {r:List Tok} (hp:On p (u::r)) (h:iW f p st=some (q,eP)):pC (acK+1) f p st=pC acK f q eP:=by
 rw [pC,ae ⟨hp.code,abR hp⟩,h]
theorem Ur {f:Nat} {rest:List Tok}:∀ (gs:List ah) (p:RS) (st:PS) (ts:List Tok),On p (ts++rest)->ts.map kf=gs.flatMap O0->de gs=true ->
  ∃ q,b9 p q (.ok rest)/\∀ acK,pC (acK+gs.length) f p st=pC acK f q { st with globals:=st.globals++gs }
 | [],p,st,ts,hp,ht,_=>by
  have:ts=[]:=by simpa using ht
  subst this;exact ⟨p,On.self hp,fun acK=>by simp⟩
 | s::gs,p,st,ts,hp,ht,hn=>by
  rw [flatMap_cons] at ht;obtain ⟨A,B,rfl,D,X⟩:=dT ht;unfold de at hn;rw [all_cons,aI] at hn;rw [fP] at hp;obtain ⟨q,h3,h4⟩:=abM (f:=f) (st:=st) hp D hn.1;obtain ⟨q',h5,h6⟩:=Ur gs q { st with globals:=st.globals++[s] } B h4.1 X hn.2;exact zcq
theorem Up {f:Nat} {rest:List Tok}:∀ (as:List Ar) (p:RS) (st:PS) (ts:List Tok),On p (ts++rest)->ts.map kf=as.flatMap J0->as.all qB=true ->
  ∃ q,b9 p q (.ok rest)/\∀ acK,pC (acK+as.length) f p st=pC acK f q { st with arrays:=st.arrays++as }
 | [],p,st,ts,hp,ht,_=>by
  have:ts=[]:=by simpa using ht
  subst this;exact ⟨p,On.self hp,fun acK=>by simp⟩
 | s::gs,p,st,ts,hp,ht,hn=>by
  rw [flatMap_cons] at ht;obtain ⟨A,B,rfl,D,X⟩:=dT ht;rw [all_cons,aI] at hn;rw [fP] at hp
  have dq:bN s.name=true:=by have:=hn.1;unfold qB at this;simp only [aI] at this;exact this.1.1
  obtain ⟨q,h3,h4⟩:=abK (f:=f) (st:=st) hp D dq;obtain ⟨q',h5,h6⟩:=Up gs q { st with arrays:=st.arrays++[s] } B h4.1 X hn.2;exact zcq
def Y9 (x:Fn × List S):Prop:=bN x.1.name=true/\de x.1.params=true/\S.dA x.2=true
theorem Uq {f:Nat}:∀ (xs:List (Fn × List S)) (p:RS) (st:PS) (ts:List Tok),On p ts->u9 p.l->fW p<=f->ts.map kf=xs.flatMap Kp->(∀ x∈xs,Y9 x) ->
  ((xs.all fun x=>fG x.2 1)=true->∃ q l,(∀ acK,xs.length < acK->pC acK f p st=some (q,{ st with trees:=st.trees++l,fns:=st.fns++xs.map fun x=>(x.1.name,x.1.params) }))/\q.code=0/\aZ l=xs.map fun x=>cB x.2) /\
  ((xs.all fun x=>fG x.2 1)=false->∃ q eP,(∀ acK,xs.length < acK->pC acK f p st=some (q,eP))/\q.code≠0)
 | [],p,st,ts,hp,_,_,ht,_=>by
  have:ts=[]:=by simpa using ht
  subst this;refine ⟨fun _=>⟨p,[],fun acK hG=>?_,hp.code,by rw [aZ];rfl⟩,fun h=>by cases h⟩;obtain ⟨acK,rfl⟩:∃ g',acK=g'+1:=⟨acK - 1,by rw [length_nil] at hG;omega⟩;rw [pC,ab (fun hc=>Ym hp hc.2)];simp
 | x::xs,p,st,ts,hp,hs,hf,ht,hx=>by
  rw [flatMap_cons] at ht;obtain ⟨A,B,rfl,D,X⟩:=dT ht;obtain ⟨x1,x2,x3⟩:=hx x mem_cons_self;obtain ⟨k1,k2⟩:=abL (st:=st) hp hs hf D x1 x2 x3
  have bT:∃ u r,A++B=u::r:=by obtain ⟨u,r,rfl,_,_⟩:=map_cons D;exact ⟨u,_,rfl⟩
  obtain ⟨u,r,hu⟩:=bT;rw [hu] at hp
  cases hb:fG x.2 1 with
  | false =>
   obtain ⟨q,eP,k3,k4⟩:=k2 hb;refine ⟨fun h=>(by rw [all_cons,hb] at h;cases h),fun _=>⟨q,eP,fun acK hG=>?_,k4⟩⟩;obtain ⟨acK,rfl⟩:∃ g',acK=g'+1:=⟨acK - 1,by rw [length_cons] at hG;omega⟩;rw [sW hp k3,K5 k4 zgb]
  | true =>
   obtain ⟨q,t,k3,k4,k5⟩:=k1 hb;have qy:q.l=p.l:=k5.2.1;obtain ⟨j1,j2⟩:=Uq (f:=f) xs q { st with trees:=st.trees++[t],fns:=st.fns++[(x.1.name,x.1.params)] } B k5.1 zf3 zfP X (fun y hy=>hx y (dm _ hy));rw [all_cons,hb,Bool.true_and];refine ⟨fun h=>?_,fun h=>?_⟩
   ·obtain ⟨q',l,j3,j4,j5⟩:=j1 h;refine ⟨q',t::l,fun acK hG=>?_,j4,by rw [aZ,k4,j5];rfl⟩;obtain ⟨acK,rfl⟩:∃ g',acK=g'+1:=⟨acK - 1,by rw [length_cons] at hG;omega⟩;rw [sW hp k3,j3 acK zgb];simp
   ·obtain ⟨q',eP,j3,j4⟩:=j2 h;refine ⟨q',eP,fun acK hG=>?_,j4⟩;obtain ⟨acK,rfl⟩:∃ g',acK=g'+1:=⟨acK - 1,by rw [length_cons] at hG;omega⟩;rw [sW hp k3,j3 acK zgb]
theorem Qo (acK:List ah) (As:List Ar) (xs:List (Fn × List S)) (D:de acK=true) (X:As.all qB=true) (h3:∀ x∈xs,Y9 x) :
  ∃ ts,Tz (dV nL (dV a1 (dV g1 [] acK) As) xs) 0 ts (dV nL (dV a1 (dV g1 [] acK) As) xs).length /\
  (u9 ts->∀ (e:Int) (g f:Nat),ts.length+1<=g->40 * ts.length+100<=f ->
   ((xs.all fun x=>fG x.2 1)=true->∃ q l,pC g f ⟨ts,0,e,0,0⟩ .empty=some (q,⟨l,acK,As,xs.map fun x=>(x.1.name,x.1.params)⟩)/\q.code=0/\aZ l=xs.map fun x=>cB x.2) /\
   ((xs.all fun x=>fG x.2 1)=false->∃ q eP,pC g f ⟨ts,0,e,0,0⟩ .empty=some (q,eP)/\q.code≠0)):=by
 have l1:=A5 (f:=g1) (k:=O0) acK (fun s hs=>ZW (gP.1 D s hs)) [] [] eV.nil;have l2:=A5 (f:=a1) (k:=J0) As (fun s hs=>ZU (gP.1 X s hs)) _ _ l1;have l3:=A5 (f:=nL) (k:=Kp) xs (fun x hx=>by obtain ⟨a,b,c⟩:=h3 x hx;exact ZV a b c) _ _ l2;obtain ⟨ts,k1,k2⟩:=l3.all;refine ⟨ts,k2,fun hs e g f hg hf=>?_⟩;rw [nil_append] at k1;obtain ⟨A,C,rfl,k3,k4⟩:=dT k1;obtain ⟨A,B,rfl,k5,k6⟩:=dT k3;have FI:On ⟨(A++B)++C,0,e,0,0⟩ (A++(B++C)):=⟨rfl,aX _,by simp,k2.kinds⟩;obtain ⟨q1,j1,j2⟩:=Ur (f:=f) acK _ .empty A FI k5 D;obtain ⟨q2,j3,j4⟩:=Up (f:=f) As q1 _ B j1.1 k6 X;have qy:q2.l=(A++B)++C:=(j1.tr j3).2.1;obtain ⟨j5,j6⟩:=Uq (f:=f) xs q2 { ({ PS.empty with globals:=PS.empty.globals++acK }:PS) with arrays:=PS.empty.arrays++As } C j3.1 zf3 (by unfold fW;rw [qy];exact hf) k4 h3
 have c1:acK.length<=A.length:=by
  have:=congrArg List.length k5;rw [cj] at this;rw [this];clear this k5 j1 j2 j3 j4 j5 j6 qy FI hs k1 k2 k3 l1 l2 l3 hf hg D
  induction acK with
  | nil=>exact aH _
  | cons s acK ih=>rw [flatMap_cons,aO,length_cons];simp only [O0,length_cons,length_nil];omega
 have c2:As.length<=B.length:=by
  have:=congrArg List.length k6;rw [cj] at this;rw [this];clear this k6 j1 j2 j3 j4 j5 j6 qy FI hs k1 k2 k3 l1 l2 l3 hf hg X
  induction As with
  | nil=>exact aH _
  | cons s acK ih=>rw [flatMap_cons,aO,length_cons];simp only [J0,length_cons,length_nil];omega
 have c3:xs.length<=C.length:=by
  have:=congrArg List.length k4;rw [cj] at this;rw [this];clear this k4 j1 j2 j3 j4 j5 j6 qy FI hs k1 k2 k3 l1 l2 l3 hf hg h3
  induction xs with
  | nil=>exact aH _
  | cons s acK ih=>rw [flatMap_cons,aO,length_cons];simp only [Kp,length_cons];omega
 rw [aO,aO] at hg;have pn:∃ g',xs.length < g'/\g=g'+As.length+acK.length:=⟨g - As.length - acK.length,by omega,by omega⟩;obtain ⟨g',kU,rfl⟩:=pn;rw [j2,j4];refine ⟨fun h=>?_,fun h=>?_⟩
 ·obtain ⟨q,l,j7,j8,j9⟩:=j5 h;exact ⟨q,l,j7 g' kU,j8,j9⟩
 ·obtain ⟨q,eP,j7,j8⟩:=j6 h;exact ⟨q,eP,j7 g' kU,j8⟩
structure DW (st:PS):Prop where
 globals:de st.globals=true
 arrays:st.arrays.all qB=true
 fns:∀ x∈st.fns,bN x.1=true/\de x.2=true
 trees:∀ t∈st.trees,BF t
 len:st.fns.length=st.trees.length
theorem BO {a b:List ah} (h:de a=true) (k:de b=true):de (a++b)=true:=by
 unfold de at *;rw [List.all_append,h,k];rfl
theorem BP {s:ah} (h:bN s=true):de [s]=true:=by
 unfold de;rw [all_cons,h];rfl
theorem Sf.len {a b:List Tok} {n:Nat} (h:Sf a b n):b.length+n<=a.length:=by
 obtain ⟨p,rfl,h⟩:=h;rw [aO];omega
theorem KY:∀ (f:Nat) (acc:List ah) (p:RS) (ts:List Tok),On p ts->tU ts->ts.length+1 < f->de acc=true ->
  ∃ l q,qU f acc p=some (l,q)/\((∃ r n,b9 p q (.ok r)/\de l=true/\Sf ts r n)\/q.code≠0)
 | 0,acc,p,ts,_,_,hf,_=>by omega
 | f+1,acc,p,ts,hp,ho,hf,hn=>by
  rw [qU]
  by_cases hc:p.code=0/\is p 0 [41]=false
  ·rw [ae hc]
   have jJ:(∃ r,b9 p (if acc.length=0 then p else want p [44]) (.ok r)/\Sf ts r 0)\/(if acc.length=0 then p else want p [44]).code≠0:=by
    by_cases ha:acc.length=0
    ·rw [ae ha];exact .inl ⟨ts,On.self hp,.nil _⟩
    ·rw [ab ha]
     rcases n9 hp (s:=[44]) ao with ⟨r,D,X⟩ | ⟨x,D,X⟩
     ·exact .inl ⟨r,X,(Sf.aL ao D).le (aX _)⟩
     ·exact .inr (b9.err X)
   generalize (if acc.length=0 then p else want p [44])=p' at *
   rcases jJ with ⟨r,D,X⟩ | D
   ·rcases vM D.1 with ⟨r2,h3,h4⟩ | ⟨x,h3,h4⟩
    ·obtain ⟨k1,k2⟩:=Sf.name h3 (X.ok ho);have hlen:=(X.trans k1).len;obtain ⟨l,q,k3,k4⟩:=KY f (acc++[(tok p' 0).s]) (bI p') r2 h4.1 ((X.trans k1).ok ho) aq (BO hn (BP k2));refine ⟨l,q,k3,?_⟩
     rcases k4 with ⟨r3,n,k5,k6,k7⟩ | k5
     ·exact .inl ⟨r3,_,(D.tr h4).tr k5,k6,(X.trans k1).trans k7⟩
     ·exact .inr k5
    ·exact ⟨_,_,A3 (b9.err h4) aq,.inr (b9.err h4)⟩
   ·rw [Qb D];exact ⟨_,_,A3 D aq,.inr D⟩
  ·rw [ab hc]
   rcases n9 hp (s:=[41]) ao with ⟨r,D,X⟩ | ⟨x,D,X⟩
   ·exact ⟨acc,_,rfl,.inl ⟨r,1,X,hn,Sf.aL ao D⟩⟩
   ·exact ⟨acc,_,rfl,.inr (b9.err X)⟩
theorem Yb {f:Nat} {p:RS} {st:PS} {u:Tok} {r0:List Tok} (hp:On p (u::r0)) (ho:tU (u::r0)) (hs:u9 p.l) (hf:fW p<=f) (cU:DW st) :
  ∃ q eP,iW f p st=some (q,eP)/\((∃ r n,b9 p q (.ok r)/\DW eP/\Sf (u::r0) r (n+1)/\aD eP.trees<=n+1+aD st.trees)\/q.code≠0):=by
 have p1:=nx hp;have lX:=Sf.one u r0;unfold iW
 by_cases D:is p 0 jc=true
 ·rw [ae D]
  rcases vM p1 with ⟨r1,a1,a2⟩ | ⟨x,a1,a2⟩
  ·obtain ⟨b1,b2⟩:=Sf.name a1 (lX.ok ho);have b3:=lX.trans b1;have a3:b9 p (bI p.next) (.ok r1):=(On.next hp).tr a2
   by_cases X:(bI p.next).code=0/\is (bI p.next) 0 [91]=true
   ·rw [ae X]
    have h3:sign r1 0=[91]:=by
     have:=On.is a2.1 0 (s:=[91]) ao;rw [X.2] at this;simpa using this.symm
    obtain ⟨v,h4,_⟩:=vT ao h3;have b4:=b3.trans (Sf.sign ao h3);have p2:=a2.1;rw [h4] at p2
    have a4:b9 p (bI p.next).next (.ok r1.tail):=a3.tr (On.next p2)
    have p3:=nx p2
    by_cases h5:(tok (bI p.next).next 0).kind=1
    ·rw [ae h5]
     cases hr:r1.tail with
     | nil =>
      rw [hr] at p3;have:=On.tok p3 0;rw [this] at h5;cases h5
     | cons w r3 =>
      rw [hr] at p3 a4 b4;have p4:=nx p3;have b5:=b4.trans (Sf.one w r3);have a5:=a4.tr (On.next p3);rw [sw p3] at h5;have hw:=(b4.ok ho w mem_cons_self).num h5
      rcases n9 p4 (s:=[93]) ao with ⟨r4,c1,c2⟩ | ⟨x,c1,c2⟩
      ·rcases n9 c2.1 (s:=[59]) ao with ⟨r5,d1,d2⟩ | ⟨x,d1,d2⟩
       ·refine ⟨_,_,rfl,.inl ⟨r5,0,(a5.tr c2).tr d2,⟨cU.globals,?_,cU.fns,cU.trees,cU.len⟩,((b5.trans (Sf.aL ao c1)).trans (Sf.aL ao d1)).le aq,by simp only;omega⟩⟩;simp only;rw [List.all_append,cU.arrays,all_cons,List.all_nil,Bool.and_true,Bool.true_and];unfold qB;rw [sw p3,b2];simp only [aI,Bool.not_eq_true',decide_eq_false_iff_not];exact ⟨⟨trivial,by omega⟩,by omega⟩
       ·exact ⟨_,_,rfl,.inr (b9.err d2)⟩
      ·refine ⟨_,_,rfl,.inr ?_⟩;rw [gY (b9.err c2)];exact b9.err c2
    ·rw [ab h5];exact ⟨_,_,rfl,.inr (b9.err (On.ml p3))⟩
   ·rw [ab X]
    rcases n9 a2.1 (s:=[59]) ao with ⟨r4,c1,c2⟩ | ⟨x,c1,c2⟩
    ·exact ⟨_,_,rfl,.inl ⟨r4,0,a3.tr c2,⟨BO cU.globals (BP b2),cU.arrays,cU.fns,cU.trees,cU.len⟩,(b3.trans (Sf.aL ao c1)).le aq,by simp only;omega⟩⟩
    ·exact ⟨_,_,rfl,.inr (b9.err c2)⟩
  ·rw [ab (fun h=>b9.err a2 h.1),gY (b9.err a2)];exact ⟨_,_,rfl,.inr (b9.err a2)⟩
 ·rw [ab D]
  by_cases X:is p 0 jv=true
  ·rw [ae X]
   rcases vM p1 with ⟨r1,a1,a2⟩ | ⟨x,a1,a2⟩
   ·obtain ⟨b1,b2⟩:=Sf.name a1 (lX.ok ho);have b3:=lX.trans b1;have a3:b9 p (bI p.next) (.ok r1):=(On.next hp).tr a2
    rcases n9 a2.1 (s:=[40]) ao with ⟨r2,c1,c2⟩ | ⟨x,c1,c2⟩
    ·have b4:=b3.trans (Sf.aL ao c1);have a4:=a3.tr c2;have hl:=On.len c2.1;have mw:(want (bI p.next) [40]).l=p.l:=a4.2.1;obtain ⟨l,q,k1,k2⟩:=KY f [] _ r2 c2.1 (b4.ok ho) (by rw [mw] at hl;unfold fW at hf;omega) rfl;rw [k1];simp only
     rcases k2 with ⟨r3,n,k3,k4,k5⟩ | k3
     ·have a5:=a4.tr k3;have qy:q.l=p.l:=a5.2.1;rw [ae k3.1.code];obtain ⟨t,q',k6,k7⟩:=X9 (f:=f) k3.1 zf3 zfP;rw [k6];simp only;have b5:=b4.trans k5
      cases hb:block q.e 1 r3 with
      | error x=>rw [hb] at k7;exact ⟨_,_,rfl,.inr (b9.err k7)⟩
      | ok y =>
       obtain ⟨t',r4⟩:=y;rw [hb] at k7;obtain ⟨rfl,k7⟩:=k7;obtain ⟨k8,k9⟩:=Md (b5.ok ho) hb;refine ⟨_,_,rfl,.inl ⟨r4,n+bc t+2,a5.tr k7,⟨cU.globals,cU.arrays,?_,?_,?_⟩,(b5.trans k9).le aq,?_⟩⟩
       ·intro x hx
        rcases nt hx with hx | hx
        ·exact cU.fns x hx
        ·rw [mem_singleton] at hx;subst hx;exact ⟨b2,k4⟩
       ·intro x hx
        rcases nt hx with hx | hx
        ·exact cU.trees x hx
        ·rw [mem_singleton] at hx;subst hx;exact k8
       ·simp only [aO,length_cons,length_nil];have:=cU.len;omega
       ·simp only [pg,aD];omega
     ·rw [ab k3];exact ⟨_,_,rfl,.inr k3⟩
    ·rw [A3 (b9.err c2) (by unfold fW at hf;omega)];simp only;rw [ab (b9.err c2)];exact ⟨_,_,rfl,.inr (b9.err c2)⟩
   ·rw [gY (b9.err a2),A3 (b9.err a2) (by unfold fW at hf;omega)];simp only;rw [ab (b9.err a2)];exact ⟨_,_,rfl,.inr (b9.err a2)⟩
  ·rw [ab X];exact ⟨_,_,rfl,.inr (b9.err (On.ml hp))⟩
theorem KZ {f:Nat}:∀ (acK:Nat) (p:RS) (st:PS) (ts:List Tok),On p ts->tU ts->u9 p.l->fW p<=f->DW st->ts.length < acK ->
  ∃ q eP,pC acK f p st=some (q,eP)/\(q.code=0->DW eP/\aD eP.trees<=ts.length+aD st.trees)
 | 0,p,st,ts,_,_,_,_,_,hG=>by omega
 | acK+1,p,st,ts,hp,ho,hs,hf,cU,hG=>by
  cases ts with
  | nil =>
   rw [pC,ab (fun hc=>Ym hp hc.2)];exact ⟨p,st,rfl,fun _=>⟨cU,by simp⟩⟩
  | cons u r0 =>
   obtain ⟨q,eP,D,X⟩:=Yb hp ho hs hf cU;rw [sW hp D];rw [length_cons] at hG
   rcases X with ⟨r,n,h3,h4,h5,h6⟩ | h3
   ·have hl:=h5.len;rw [length_cons] at hl;have qy:q.l=p.l:=h3.2.1;obtain ⟨q',st2,k1,k2⟩:=KZ acK q eP r h3.1 (h5.ok ho) zf3 zfP h4 aq;exact ⟨q',st2,k1,fun hc=>by obtain ⟨k3,k4⟩:=k2 hc;exact ⟨k3,by rw [length_cons];omega⟩⟩
   ·exact ⟨q,eP,K5 h3 aq,fun hc=>absurd hc h3⟩
def q6 (st:PS):List Fn:=st.fns.mapIdx fun i x=>⟨x.1,x.2,((aD (st.trees.take i):Nat):Int)⟩
def same (p:Src) (st:PS):Bool:=gm (fun x y=>x==y) p.globals st.globals&&(gm Bz p.arrays st.arrays&&(gm tL p.fns (q6 st)&&gm mU p.nodes (dX 0 st.trees)))
structure Reads (x:ah) (ts:List Tok) (c z:Int) (q:RS) (st:PS):Prop where
 lex:rp x (x.length+1) 0 []=some (ts,c,z)
 len:ts.length<=x.length
 read:pC (ts.length+1) (40 * ts.length+100) ⟨ts,0,(x.length:Int),0,0⟩ .empty=some (q,st)
 ok:q.code=0->DW st/\aD st.trees<=ts.length
theorem reads (x:ah):∃ ts c z q st,Reads x ts c z q st:=by
 obtain ⟨ts,c,z,D,X,h3,h4⟩:=ug x (x.length+1) 0 [] (aX _) aq (fun t h=>by simp at h) .nil (fun t h=>by simp at h) (aH _);have FI:On ⟨ts,0,(x.length:Int),0,0⟩ ts:=⟨rfl,aX _,rfl,fun t ht=>(X t ht).kinds⟩;obtain ⟨q,st,h5,h6⟩:=KZ (f:=40 * ts.length+100) (ts.length+1) _ .empty ts FI X h3 (aH _) ⟨rfl,rfl,fun x h=>zfA,fun x h=>zfA,rfl⟩ aq;exact ⟨ts,c,z,q,st,D,h4,h5,fun h=>by obtain ⟨a,b⟩:=h6 h;exact ⟨a,by simpa [PS.empty,aD] using b⟩⟩
structure Forms (l:List T) (ls:List (List S)):Prop where
 len:ls.length=l.length
 at_:∀ (i:Nat) t b,l[i]?=some t->ls[i]?=some b->S.dA b=true/\er t=cB b
theorem Hm:∀ (l:List T),(∀ t∈l,BF t)->∃ ls,Forms l ls
 | [],_=>⟨[],rfl,fun i t b h=>by simp at h⟩
 | t::l,h=>by
  obtain ⟨b,D,X⟩:=h t mem_cons_self
  obtain ⟨ls,h3⟩:=Hm l fun u hu=>h u (dm _ hu)
  refine ⟨b::ls,by simp [h3.len],fun i t' b' k1 k2=>?_⟩
  cases i with
  | zero=>cases k1;cases k2;exact ⟨D,X⟩
  | succ i=>exact h3.at_ i t' b' (by simpa using k1) (by simpa using k2)
theorem gz.mem {Q:Fn->T->Prop}:∀ {fns:List Fn} {a:Nat} {l:List T},gz Q fns a l->(∀ f∈fns,∃ t∈l,Q f t)/\(∀ t∈l,∃ f∈fns,Q f t)
 | [],_,[],_=>⟨fun f h=>zfA,fun f h=>zfA⟩
 | f::r,a,t::l,h=>by
  rw [gz] at h;obtain ⟨k1,k2⟩:=gz.mem h.2.2;refine ⟨fun g hg=>?_,fun u hu=>?_⟩
  ·rcases eF hg with rfl | hg
   ·exact ⟨t,mem_cons_self,h.2.1⟩
   ·obtain ⟨u,a,b⟩:=k1 g hg;exact ⟨u,dm _ a,b⟩
  ·rcases eF hu with rfl | hu
   ·exact ⟨f,mem_cons_self,h.2.1⟩
   ·obtain ⟨g,a,b⟩:=k2 u hu;exact ⟨g,dm _ a,b⟩
 | [],_,t::l,h=>by cases h
 | f::r,_,[],h=>by cases h
theorem il.Mq {p:Src} {l:List T} (h:il p l):∃ ls,Forms l ls:=by
 refine Hm l fun t ht=>?_
 obtain ⟨f,_,D⟩:=(gz.mem h.fns).2 t ht;exact toB D.all D.kind
theorem il.at_ {p:Src} {l:List T} (h:il p l):om l:=by
 have:∀ l:List T,(∀ t∈l,dQ t=true)->om l:=by
  intro l
  induction l with
  | nil=>intro _;trivial
  | cons t l ih=>intro h;rw [om];exact ⟨NY t (h t mem_cons_self),ih fun u hu=>h u (dm _ hu)⟩
 refine this l fun t ht=>?_
 obtain ⟨f,_,D⟩:=(gz.mem h.fns).2 t ht;exact D.all
theorem il.Fk {p:Src} {l:List T} (h:il p l):kC p.nodes p.fns 0 []=some (l,p.nodes.length):=by
 rw [J7 p.fns 0 [] l h.st h.fns h.at_,h.len];simp
theorem il.k {p:Src} {l:List T} (h:il p l):l.all ji=true:=by
 rw [gP];intro t ht;obtain ⟨f,_,D⟩:=(gz.mem h.fns).2 t ht;exact Ts t D.all
theorem OU {l:List T} {ls:List (List S)} (h:Forms l ls):aZ l=ls.map cB:=by
 rw [uU];apply List.ext_getElem?;intro i;rw [bp,bp];have hl:=h.len
 cases D:l[i]? with
 | none =>
  rw [List.getElem?_eq_none_iff] at D;rw [List.getElem?_eq_none_iff.2 aq];rfl
 | some t =>
  have hi:=(bu D).1
  have X:ls[i]?=some (ls[i]'aq):=by simp [hl,hi]
  rw [X];exact congrArg some (h.at_ i t _ D X).2
theorem zip_fst {α β:Type}:∀ (a:List α) (b:List β),a.length=b.length->(a.zip b).map Prod.fst=a
 | [],[],_=>rfl
 | x::a,y::b,h=>by rw [zip_cons_cons,List.map_cons,zip_fst a b zfx]
 | [],y::b,h=>by simp at h
 | x::a,[],h=>by simp at h
theorem E9 {α β:Type}:∀ (a:List α) (b:List β),a.length=b.length->(a.zip b).map Prod.snd=b
 | [],[],_=>rfl
 | x::a,y::b,h=>by rw [zip_cons_cons,List.map_cons,E9 a b zfx]
 | [],y::b,h=>by simp at h
 | x::a,[],h=>by simp at h
theorem AE (l:List T) (i:Nat):aD (l.take i)=aD ((aZ l).take i):=by
 rw [uU,<-List.map_take,<-uU,ye]
theorem YJ {p:Src} {l:List T} {l':List T} {ls:List (List S)} (h:il p l) (he:aZ l'=aZ l):same p ⟨l',p.globals,p.arrays,p.fns.map fun x=>(x.name,x.params)⟩=true:=by
 unfold same;simp only [aI];refine ⟨sR (fun x=>by simp) _,sR (fun x=>by simp [Bz]) _,?_,?_⟩
 ·have:q6 ⟨l',p.globals,p.arrays,p.fns.map fun x=>(x.name,x.params)⟩=p.fns:=by
   unfold q6;apply List.ext_getElem?;intro i;simp only [List.getElem?_mapIdx,bp]
   cases hf:p.fns[i]? with
   | none=>rfl
   | some f =>
    have hlen:=gz.len h.fns;have hi:=(bu hf).1
    have ht:l[i]?=some (l[i]'aq):=by simp [<-hlen,hi]
    have hb:=(gz.at_ h.fns i f _ hf ht).1;rw [ed,AE,<-he,<-AE] at hb;simp only [Option.map_some];rw [<-hb]
  rw [this];refine sR (fun x=>?_) _;simp [tL,sR]
 ·rw [eg.all h.st h.len];exact Eh _ _ 0 he.symm
theorem Ye {p:Src} {l:List T} {ls:List (List S)} (h:il p l) (hf:Forms l ls):po dG gK p l=dV nL (dV a1 (dV g1 [] p.globals) p.arrays) (p.fns.zip ls):=by
 unfold po
 refine Oe _ _ _ _ hf.len fun i t b D X=>?_
 obtain ⟨h3,h4⟩:=hf.at_ i t b D X;rw [<-N6,h4];exact xo b h3 0
theorem Nx {p:Src} {l:List T} {ls:List (List S)} (h:il p l) (hf:Forms l ls) {ts:List Tok} {c z:Int} {q:RS} {st:PS} (hr:Reads (po dG gK p l) ts c z q st) :
  c=0/\((ls.all fun b=>fG b 1)=true->q.code=0/\aD st.trees<=800/\same p st=true)/\((ls.all fun b=>fG b 1)=false->q.code≠0):=by
 have hx:=Ye h hf;have hlen:=gz.len h.fns;have qx:=hf.len
 have pV:∀ x∈p.fns.zip ls,Y9 x:=by
  intro x hx;obtain ⟨f,b⟩:=x;obtain ⟨i,hi⟩:=List.getElem?_of_mem hx;rw [List.getElem?_zip_eq_some] at hi;have r9:=(bu hi.2).1
  have ht:l[i]?=some (l[i]'aq):=by simp [<-qx,r9]
  have D:=(gz.at_ h.fns i f _ hi.1 ht).2;exact ⟨D.name,D.params,(hf.at_ i _ b ht hi.2).1⟩
 obtain ⟨us,D,X⟩:=Qo p.globals p.arrays (p.fns.zip ls) h.globals h.arrays pV;rw [<-hx] at D;have h3:=VH D rfl ((po dG gK p l).length+1) [] aq;rw [nil_append,hr.lex] at h3;simp only [Option.some.injEq,Prod.mk.injEq] at h3;obtain ⟨rfl,rfl,rfl⟩:=h3
 have abF:u9 ts:=by
  obtain ⟨kv,c',z',k1,k2,k3,k4⟩:=ug (po dG gK p l) ((po dG gK p l).length+1) 0 [] (aX _) aq (fun t h=>by simp at h) .nil (fun t h=>by simp at h) (aH _);rw [hr.lex] at k1;cases k1;exact k3
 obtain ⟨h4,h5⟩:=X abF ((po dG gK p l).length:Int) (ts.length+1) (40 * ts.length+100) (aH _) (aH _)
 have ba:((p.fns.zip ls).all fun x=>fG x.2 1)=ls.all fun b=>fG b 1:=by
  have:ls=(p.fns.zip ls).map Prod.snd:=(E9 _ _ aq).symm
  conv=>rhs;rw [this]
  rw [List.all_map];rfl
 rw [ba] at h4 h5;refine ⟨rfl,fun w9=>?_,fun w9=>?_⟩
 ·obtain ⟨q',l',k1,k2,k3⟩:=h4 w9;rw [hr.read] at k1;simp only [Option.some.injEq,Prod.mk.injEq] at k1;obtain ⟨rfl,rfl⟩:=k1
  have e1:((p.fns.zip ls).map fun x=>cB x.2)=ls.map cB:=by
   have:ls=(p.fns.zip ls).map Prod.snd:=(E9 _ _ aq).symm
   conv=>rhs;rw [this]
   rw [map_map];rfl
  have e2:((p.fns.zip ls).map fun x=>(x.1.name,x.1.params))=p.fns.map fun x=>(x.name,x.params):=by
   have:p.fns=(p.fns.zip ls).map Prod.fst:=(zip_fst _ _ aq).symm
   conv=>rhs;rw [this]
   rw [map_map];rfl
  have he:aZ l'=aZ l:=by rw [k3,e1,OU hf]
  refine ⟨k2,?_,?_⟩
  ·simp only;rw [<-ye,he,ye,h.len];exact h.few
  ·rw [e2];exact YJ (ls:=ls) h he
 ·obtain ⟨q',eP,k1,k2⟩:=h5 w9;rw [hr.read] at k1;simp only [Option.some.injEq,Prod.mk.injEq] at k1;obtain ⟨rfl,rfl⟩:=k1;exact k2
theorem Kj {α:Type} {p:α->α->Bool} {a b:List α} (h:gm p a b=true) {x:α} (hx:x∈a):∃ y∈b,p x y=true:=by
 obtain ⟨i,hi⟩:=List.getElem?_of_mem hx;have hl:=AU h;have au:=(bu hi).1
 have hb:b[i]?=some (b[i]'aq):=by simp [<-hl,au]
 exact ⟨_,br hb,G9 hi hb h⟩
theorem Nl {p:Src} {l:List T} (hn:p.nodes.length<=800) (hb:kC p.nodes p.fns 0 []=some (l,p.nodes.length)) {st:PS} (eU:DW st) (hs:same p st=true):il p l:=by
 obtain ⟨l',D,X,h3,h4,h5⟩:=D7 _ _ _ _ _ hb;rw [nil_append] at D;subst D;unfold same at hs;simp only [aI] at hs;obtain ⟨s1,s2,s3,s4⟩:=hs
 have hz:aD l=p.nodes.length:=by omega
 have XO:=eg.all X hz;rw [XO] at s4
 have hlen:l.length=st.trees.length:=by
  have a1:=gz.len h3;have a2:=AU s3;unfold q6 at a2;rw [List.length_mapIdx] at a2;have:=eU.len;omega
 have he:=V6 hlen s4
 have kr:∀ f∈p.fns,bN f.name=true/\de f.params=true:=by
  intro f hf;obtain ⟨g,hg,hp⟩:=Kj s3 hf;unfold q6 at hg;obtain ⟨i,hi⟩:=List.getElem?_of_mem hg;rw [List.getElem?_mapIdx] at hi
  cases hx:st.fns[i]? with
  | none=>rw [hx] at hi;cases hi
  | some x =>
   rw [hx] at hi;cases hi;simp only [tL,aI,beq_iff_eq] at hp;obtain ⟨⟨k1,k2⟩,_⟩:=hp;obtain ⟨k3,k4⟩:=eU.fns x (br hx);rw [k1,AR k2];exact ⟨k3,k4⟩
 have htr:∀ t∈l,t.n.kind=14/\dQ t=true:=by
  intro t ht
  have h6:er t∈aZ l:=by rw [uU];exact List.mem_map_of_mem ht
  rw [he,uU] at h6;obtain ⟨u,hu,h7⟩:=wW.1 h6;obtain ⟨b,k1,k2⟩:=eU.trees u hu;rw [h7] at k2
  have zn:zC t:=by
   have:∀ l:List T,om l->t∈l->zC t:=by
    intro l
    induction l with
    | nil=>intro _ h;cases h
    | cons v l ih =>
     intro h hm;rw [om] at h
     rcases eF hm with rfl | hm
     ·exact h.1
     ·exact ih h.2 hm
   exact this l h5 ht
  refine ⟨?_,NZ t (by rw [k2];exact S.xp b k1) zn⟩;have:=congrArg (fun x=>x.n.kind) k2;simp only [zK] at this;exact this
 refine ⟨?_,?_,X,gz.mono h3 fun f t hf ht _=>⟨(kr f hf).1,(kr f hf).2,(htr t ht).1,(htr t ht).2⟩,hz,hn⟩
 ·rw [AR s1];exact eU.globals
 ·rw [gP];intro a ha;obtain ⟨b,hb,hp⟩:=Kj s2 ha;have h6:=gP.1 eU.arrays b hb;simp only [Bz,aI,beq_iff_eq] at hp;unfold qB at h6 |-;rw [hp.1,hp.2];exact h6
def b8 {α:Type} (f:α->Nat):List α->Nat
 | []=>0
 | x::l=>f x+b8 f l
theorem tt {α:Type} (f:α->Nat) (a b:List α):b8 f (a++b)=b8 f a+b8 f b:=by
 induction a with
 | nil=>simp [b8]
 | cons x a ih=>simp only [cons_append,b8,ih];omega
theorem Wc {α:Type} {f g:α->Nat} {l:List α} (h:∀ x∈l,f x<=g x):b8 f l<=b8 g l:=by
 induction l with
 | nil=>exact aH _
 | cons x l ih =>
  have D:=h x mem_cons_self
  have X:=ih fun y hy=>h y (dm _ hy)
  simp only [b8];omega
theorem tw {α:Type} {f:α->Nat} {l:List α} {x:α} (h:x∈l):f x<=b8 f l:=by
 induction l with
 | nil=>cases h
 | cons y l ih =>
  rw [b8]
  rcases eF h with rfl | h
  ·omega
  ·have:=ih h;omega
theorem tu {α:Type} {f g:α->Nat} {k:Nat} {l:List α} (h:∀ x∈l,f x<=k * g x):b8 f l<=k * b8 g l:=by
 induction l with
 | nil=>exact aX _
 | cons x l ih =>
  have D:=h x mem_cons_self
  have X:=ih fun y hy=>h y (dm _ hy)
  simp only [b8,Nat.mul_add];omega
theorem vW {α:Type} (f:α->Nat) (l:List α) (h:∀ x∈l,1<=f x):l.length<=b8 f l:=by
 induction l with
 | nil=>exact aX _
 | cons x l ih =>
  have D:=h x mem_cons_self
  have X:=ih fun y hy=>h y (dm _ hy)
  rw [b8,length_cons];omega
theorem IV {α β:Type} (f:α->Nat) (g:β->Nat):∀ (a:List α) (b:List β),b8 (fun x:α × β=>f x.1+g x.2) (a.zip b)<=b8 f a+b8 g b
 | [],b=>by simp [b8]
 | x::a,[]=>by simp [b8]
 | x::a,y::b=>by
  have:=IV f g a b;simp only [zip_cons_cons,b8] at *;omega
theorem yr {α:Type} (f:α->ah):∀ (l:List α) (acc:ah),(dV f acc l).length=acc.length+b8 (fun x=>(f x).length) l
 | [],acc=>by simp [dV,b8]
 | x::l,acc=>by rw [dV,yr f l,aO,b8];omega
def uN (n:Nd):Nat:=n.s.length+60
mutual
theorem Y8:∀ (t:T) (a:Nat),my t=b8 uN (iO a t)
 | .mk n l,a=>by rw [my,iO,b8,Bo l (a+1),uN]
theorem Bo:∀ (l:List T) (a:Nat),iK l=b8 uN (dX a l)
 | [],a=>rfl
 | t::r,a=>by rw [iK,dX,tt,Y8 t a,Bo r (a+bc t)]
end
def wi (l:List T) (i:Nat):Nat:=match l[i]? with | some t=>my t | none=>0
theorem ab1 (l:List T):wi l 0+wi l 1+wi l 2<=iK l:=by
 match l with
 | []=>simp [wi]
 | [a]=>simp only [wi,iK];simp
 | [a,b]=>simp only [wi,iK];simp
 | a::b::c::r=>simp only [wi,iK];simp;omega
theorem Kw {l:List T} {f:T->ah} (h:∀ t∈l,(f t).length<=my t) (i:Nat):((l.map f).getD i []).length<=wi l i:=by
 rw [List.getD_eq_getElem?_getD,bp];unfold wi
 cases hi:l[i]? with
 | none=>simp
 | some t=>exact h t (br hi)
theorem LL {l:List T} {t:T} (h:t∈l):bc t<=aD l:=by
 induction l with
 | nil=>cases h
 | cons a l ih =>
  rw [aD]
  rcases eF h with rfl | h
  ·omega
  ·have:=ih h;omega
theorem LK {f:T->ah}:∀ {l:List T},(∀ t∈l,(f t).length+4<=my t)->mA (l.map f)<=iK l
 | [],_=>aX _
 | t::l,h=>by
  have D:=h t mem_cons_self
  have X:=LK (l:=l) fun y hy=>h y (dm _ hy)
  rw [List.map_cons,mA,iK];omega
theorem YR:∀ (N:Nat) (t:T),bc t<=N->tg t->∀ d,(mb dG gK d t).length+4<=my t/\(py dG gK d t).length<=my t:=by
 intro N
 induction N with
 | zero=>intro t h;exact zeB
 | succ N ih =>
  intro t hN hn d;have dR:=fa t;rw [th] at hn
  have hk:∀ a∈t.kids,∀ d,(mb dG gK d a).length+4<=my a/\(py dG gK d a).length<=my a:=fun a ha d=>ih a (by have:=LL ha;omega) (lJ hn.2 ha) d
  have hx:=Kw (l:=t.kids) (f:=dG) (fun a ha=>by have:=yg (bc a) a (aH _) (lJ hn.2 ha);omega);have hb:=Kw (l:=t.kids) (f:=py dG gK d) (fun a ha=>(hk a ha d).2);have h3:=ab1 t.kids;have hw:=qY t;have gi:=yg (bc t) t (aH _) ((th t).2 hn);have x0:=hx 0;have x1:=hx 1;have b1:=hb 1;have b2:=hb 2;constructor
  ·rw [QC,J6];unfold zy;split
   ·exact zad
   split
   ·exact zad
   split
   ·exact zad
   split
   ·split
    ·exact zad
    ·exact zad
   split
   ·exact zad
   split
   ·exact zad
   split
   ·exact zad
   ·omega
  ·rw [N5,LI]
   have:=LK (f:=mb dG gK (d+1)) (l:=t.kids) fun a ha=>(hk a ha (d+1)).1
   have e:∀ l:List ah,(gK l d).length=3+mA l:=fun l=>by
    unfold gK;rw [aO,vg];simp only [length_cons,length_nil];omega
   rw [e];omega
def wS (l:List ah):Nat:=b8 (fun s=>s.length+1) l
def cQ (p:Src):Nat:=wS p.globals+b8 (fun a:Ar=>a.name.length+1) p.arrays+b8 (fun f:Fn=>f.name.length+wS f.params+1) p.fns+b8 (fun n:Nd=>n.s.length+n.kids.length+1) p.nodes
structure pj (p:Src):Prop where
 arrays:∀ a∈p.arrays,-9223372036854775808<=a.size/\a.size<=9223372036854775807
 nodes:∀ n∈p.nodes,-9223372036854775808<=n.n/\n.n<=9223372036854775807
mutual
theorem fi.num {nodes:List Nd} (h:∀ n∈nodes,-9223372036854775808<=n.n/\n.n<=9223372036854775807):∀ (t:T) (a:Nat),fi nodes a t->tg t
 | .mk n l,a,hs=>by
  rw [fi] at hs;rw [tg];exact ⟨h n (br hs.1),eg.num h l _ hs.2.2⟩
theorem eg.num {nodes:List Nd} (h:∀ n∈nodes,-9223372036854775808<=n.n/\n.n<=9223372036854775807):∀ (l:List T) (a:Nat),eg nodes a l->tK l
 | [],a,_=>trivial
 | t::r,a,hs=>by
  rw [eg] at hs;rw [tK];exact ⟨fi.num h t a hs.1,eg.num h r _ hs.2⟩
end
theorem Tb (l:List ah):(l.map fun y=>y.length+2).sum=b8 (fun s=>s.length+2) l:=by
 induction l with
 | nil=>rfl
 | cons s l ih=>rw [List.map_cons,sum_cons,ih,b8]
theorem Ja (l:List T):iK l=b8 my l:=by
 induction l with
 | nil=>rfl
 | cons t l ih=>rw [iK,b8,ih]
theorem Vz {p:Src} {l:List T} (hn:pj p) (hs:eg p.nodes 0 l) (hz:aD l=p.nodes.length):(po dG gK p l).length<=100 * cQ p:=by
 have jU:=eg.num hn.nodes l 0 hs
 have e1:b8 (fun s=>(g1 s).length) p.globals<=100 * wS p.globals:=tu fun s _=>by simp only [g1,aO,length_cons,length_nil];omega
 have e2:b8 (fun a=>(a1 a).length) p.arrays<=100 * b8 (fun a:Ar=>a.name.length+1) p.arrays:=tu fun a ha=>by
  have:=Al (hn.arrays a ha);simp only [a1,aO,length_cons,length_nil];omega
 have e3:b8 (fun x=>(dH dG gK x).length) (p.fns.zip l)<=b8 (fun x:Fn × T=>(fun f:Fn=>100 * (f.name.length+wS f.params+1)) x.1+my x.2) (p.fns.zip l):=Wc fun x hx=>by
  have D:=(YR (bc x.2) x.2 (aH _) (lJ jU (List.of_mem_zip hx).2) 0).2;have X:=Co x.1.params;rw [Tb] at X
  have h3:b8 (fun s=>s.length+2) x.1.params<=2 * wS x.1.params:=tu fun s _=>by omega
  simp only [dH,aO,length_cons,length_nil];omega
 have e4:=IV (fun f:Fn=>100 * (f.name.length+wS f.params+1)) my p.fns l
 have e5:b8 (fun f:Fn=>100 * (f.name.length+wS f.params+1)) p.fns<=100 * b8 (fun f:Fn=>f.name.length+wS f.params+1) p.fns:=tu fun f _=>aH _
 have e6:b8 uN p.nodes<=100 * b8 (fun n:Nd=>n.s.length+n.kids.length+1) p.nodes:=tu fun n _=>by unfold uN;omega
 have e7:b8 my l=b8 uN p.nodes:=by rw [<-Ja,Bo l 0,<-eg.all hs hz]
 unfold po cQ;rw [yr,yr,yr];simp only [length_nil];have e8:=jg e3 e4;generalize b8 (fun x=>(dH dG gK x).length) (p.fns.zip l)=v3 at *;generalize b8 (fun s=>(g1 s).length) p.globals=v1 at *;generalize b8 (fun a=>(a1 a).length) p.arrays=v2 at *;omega
theorem I1 {p:Src} {l:List T} (hs:eg p.nodes 0 l) (hz:aD l=p.nodes.length):∀ t∈l,my t<=100 * cQ p/\bc t<=cQ p:=fun t ht=>by
 have e6:b8 uN p.nodes<=100 * b8 (fun n:Nd=>n.s.length+n.kids.length+1) p.nodes:=tu fun n _=>by unfold uN;omega
 have e7:b8 my l=b8 uN p.nodes:=by rw [<-Ja,Bo l 0,<-eg.all hs hz]
 have e8:=tw (f:=my) ht;have e9:=LL ht
 have e10:=vW (fun n:Nd=>n.s.length+n.kids.length+1) p.nodes fun n _=>by omega
 unfold cQ;omega
theorem QQ (l:List ah):l.length<=wS l:=vW _ l fun s _=>by omega
theorem QR {l:List ah} {s:ah} (h:s∈l):s.length+1<=wS l:=tw (f:=fun s:ah=>s.length+1) h
structure Small (p:Src) (n:Nat):Prop where
 globals:p.globals.length<=n/\∀ s∈p.globals,s.length<=n
 arrays:p.arrays.length<=n/\∀ a∈p.arrays,a.name.length<=n
 fns:p.fns.length<=n/\∀ f∈p.fns,f.name.length<=n/\f.params.length<=n/\∀ s∈f.params,s.length<=n
 nodes:p.nodes.length<=n/\∀ x∈p.nodes,x.s.length<=n/\x.kids.length<=n
theorem gn (p:Src):Small p (cQ p):=by
 have a1:=QQ p.globals
 have a2:=vW (fun a:Ar=>a.name.length+1) p.arrays fun a _=>by omega
 have a3:=vW (fun f:Fn=>f.name.length+wS f.params+1) p.fns fun a _=>by omega
 have a4:=vW (fun n:Nd=>n.s.length+n.kids.length+1) p.nodes fun a _=>by omega
 unfold cQ;refine ⟨⟨by omega,fun s hs=>?_⟩,⟨by omega,fun a ha=>?_⟩,⟨by omega,fun f hf=>?_⟩,⟨by omega,fun n hn=>?_⟩⟩
 ·have:=QR hs;omega
 ·have:=tw (f:=fun a:Ar=>a.name.length+1) ha;omega
 ·have:=tw (f:=fun f:Fn=>f.name.length+wS f.params+1) hf;refine ⟨by omega,by have:=QQ f.params;omega,fun s hs=>by have:=QR hs;omega⟩
 ·have:=tw (f:=fun n:Nd=>n.s.length+n.kids.length+1) hn;exact ⟨by omega,by omega⟩
structure BW (st:PS) (n:Nat):Prop where
 globals:st.globals.length<=n
 arrays:st.arrays.length<=n
 fns:st.fns.length<=n
 params:∀ x∈st.fns,x.2.length<=n
theorem PC:∀ (f:Nat) (acc:List ah) (p:RS) (l:List ah) (q:RS),qU f acc p=some (l,q)->l.length<=acc.length+f
 | 0,_,_,_,_,h=>by cases h
 | f+1,acc,p,l,q,h=>by
  rw [qU] at h;split at h
  ·have:=PC f _ _ l q h;rw [aO,length_cons,length_nil] at this;omega
  ·cases h;omega
theorem BW.up {st:PS} {n:Nat} (h:BW st n):BW st (n+1):=by
 obtain ⟨a,b,c,d⟩:=h;exact zd8
theorem ZL {f n:Nat} {p q:RS} {st eP:PS} (hf:f<=n) (h:iW f p st=some (q,eP)) (hs:BW st n):BW eP (n+1):=by
 have key:=hs.up;obtain ⟨a,b,c,d⟩:=hs;unfold iW at h;split at h
 ·split at h
  ·split at h
   ·cases h;exact zdf
   ·cases h;exact key
  ·cases h;exact zdf
 ·split at h
  ·cases hm:qU f [] (want (bI p.next) [40]) with
   | none=>rw [hm] at h;cases h
   | some r =>
    obtain ⟨l,q1⟩:=r;rw [hm] at h;simp only at h;have hl:=PC _ _ _ _ _ hm;split at h
    ·split at h
     ·cases h
     ·cases h;refine ⟨by simp;omega,by simp;omega,by simp;omega,fun x hx=>?_⟩
      rcases nt hx with hx | hx
      ·have:=d x hx;omega
      ·rw [mem_singleton] at hx;subst hx;simp at hl |-;omega
    ·cases h;exact key
  ·cases h;exact key
theorem PE {f:Nat}:∀ (acK n:Nat) (p q:RS) (st eP:PS),f<=n->pC acK f p st=some (q,eP)->BW st n->BW eP (n+acK)
 | 0,n,p,q,st,eP,_,h,_=>by cases h
 | acK+1,n,p,q,st,eP,hf,h,hs=>by
  rw [pC] at h;split at h
  ·cases hw:iW f p st with
   | none=>rw [hw] at h;cases h
   | some r =>
    obtain ⟨q1,s1⟩:=r;rw [hw] at h;simp only at h;have:=PE acK (n+1) q1 q s1 eP aq h (ZL hf hw hs);rw [show n+(acK+1)=n+1+acK by omega];exact this
  ·cases h;obtain ⟨a,b,c,d⟩:=hs;exact zd8
mutual
theorem RG:∀ (t:T) (a:Nat),∀ n∈iO a t,n.kids.length<=bc t
 | .mk m l,a,n,h=>by
  rw [iO] at h;rw [bc]
  rcases eF h with rfl | h
  ·simp only [eC];have:=iu l;omega
  ·have:=B3 l (a+1) n h;omega
theorem B3:∀ (l:List T) (a:Nat),∀ n∈dX a l,n.kids.length<=aD l
 | [],a,n,h=>by rw [dX] at h;cases h
 | t::r,a,n,h=>by
  rw [dX] at h;rw [aD]
  rcases nt h with h | h
  ·have:=RG t a n h;omega
  ·have:=B3 r _ n h;omega
end
end Go.Im
namespace Go.Sp
open Go.Xp
structure GH (p:Src) (ls:List (List S)):Prop where
 len:ls.length=p.fns.length
 at_:∀ (i:Nat) f l,p.fns[i]?=some f->ls[i]?=some l->0<=f.body/\S.dA l=true/\wt (cB l)<=1000000000/\∃ t,sub p.nodes (fN p.nodes) f.body.toNat=some t/\er t=cB l
theorem VQ (a:E) (ho:a.ok=true):(a.bF).length+4<=wt a.tree:=(E.len a ho).1
theorem U1 {l:List S} (ho:S.dA l=true) (hw:wt (cB l)<=1000000000) :
  ∃ ts t q f,Go.Sp.gW (gA E.bF l)=some ts/\(gA E.bF l).length<=1000000000/\ts.length<=1000000000/\1+f<=1099511627776/\mS f (.block 1) ⟨ts,0,(gA E.bF l).length,0,0⟩=some (t,q)/\q.l=ts/\((q.code=0/\q.i=ts.length/\fG l 1=true)\/(q.code≠0/\fG l 1=false)):=by
 have hlen:=uR E.bF VQ ho;generalize hx:gA E.bF l=x at *;obtain ⟨ts,D,X⟩:=(Lj ho).all;rw [hx] at X;have h3:=X.len;have FI:On ⟨ts,0,x.length,0,0⟩ ts:=⟨rfl,aX _,rfl,X.kinds⟩;have bT:rs (x.length:Int) (oN ts) (.block 1) ts≠.error bo:=yl;obtain ⟨t,q,h4,h5⟩:=(js (oN ts)).block 1 ts _ FI bT;have Pu:=G2 (e:=(x.length:Int)) (d:=1) (rest:=[]) ho D;rw [ef] at Pu
 change kR _ q t (block (x.length:Int) 1 ts) at h5
 refine ⟨ts,t,q,KF (oN ts),X.all,by omega,by omega,by unfold KF oN;omega,h4 _ (aH _),?_⟩
 cases hf:fG l 1 with
 | true =>
  obtain ⟨t',_,h6⟩:=Pu.1 hf;rw [h6] at h5;obtain ⟨_,h7,h8,_⟩:=h5;have h8:q.l=ts:=h8;refine ⟨h8,.inl ⟨h7.code,?_,rfl⟩⟩;have hr:=congrArg List.length h7.rest;have hle:=h7.le;rw [kA] at hr;rw [h8] at hr hle;simp only [length_nil] at hr;omega
 | false =>
  obtain ⟨pos,h6⟩:=Pu.2 hf;rw [h6] at h5;exact ⟨h5.2.2.2.1,.inr ⟨b9.err h5,rfl⟩⟩
end Go.Sp
namespace Go.Im
open Go.Xp Go.Sp
def Nk (p:Src) (x:ah):Bool:=match rp x (x.length+1) 0 [] with
 | none=>false
 | some (ts,c,z)=>if c≠0 then false else match pC (ts.length+1) (40 * ts.length+100) ⟨ts,0,(x.length:Int),0,0⟩ .empty with
  | none=>false
  | some (q,st)=>if q.code≠0 then false else if aD st.trees > 800 then false else same p st
def fI (p:Src):Bool:=if p.nodes.length > 800 then false else match kC p.nodes p.fns 0 [] with
 | none=>false
 | some (l,e)=>if e≠p.nodes.length then false else if l.all ji=false then false else Nk p (po dG gK p l)
theorem CA {p:Src} {x:ah} {ts:List Tok} {c z:Int} {q:RS} {st:PS} (h:Reads x ts c z q st):Nk p x=if c≠0 then false else if q.code≠0 then false else if aD st.trees > 800 then false else same p st:=by
 unfold Nk;rw [h.lex];simp only;rw [h.read]
theorem aaF {p:Src} {l:List T} {ls:List (List S)} (h:il p l) (hf:Forms l ls):fI p=ls.all fun b=>fG b 1:=by
 unfold fI;have h8:=h.few;rw [ab aq,h.Fk];simp only;rw [ab zfu,ab (by rw [h.k];decide)];obtain ⟨ts,c,z,q,st,hr⟩:=reads (po dG gK p l);obtain ⟨D,X,h3⟩:=Nx h hf hr;rw [CA hr,ab zfD]
 cases hb:ls.all fun b=>fG b 1 with
 | false=>rw [ae (h3 hb)]
 | true =>
  obtain ⟨k1,k2,k3⟩:=X hb;rw [ab (by simpa using k1),ab aq,k3]
theorem tY {p:Src} (h:fI p=true):∃ l,il p l:=by
 unfold fI at h
 by_cases h8:p.nodes.length > 800
 ·rw [ae h8] at h;cases h
 rw [ab h8] at h
 cases hb:kC p.nodes p.fns 0 [] with
 | none=>exact za0
 | some y =>
  obtain ⟨l,e⟩:=y;rw [hb] at h;simp only at h
  by_cases he:e=p.nodes.length
  ·subst he;rw [ab zfu] at h
   by_cases hk:l.all ji=false
   ·rw [ae hk] at h;cases h
   rw [ab hk] at h;obtain ⟨ts,c,z,q,st,hr⟩:=reads (po dG gK p l);rw [CA hr] at h;split at h
   ·cases h
   split at h
   ·cases h
   ·rename_i hc;split at h
    ·cases h
    ·exact ⟨l,Nl aq hb (hr.ok zfN).1 h⟩
  ·rw [ae he] at h;cases h
theorem aaE {p:Src} (h:qp p=some false):fI p=false:=by
 cases hf:fI p with
 | false=>rfl
 | true =>
  obtain ⟨l,D⟩:=tY hf;rw [D.qp] at h;cases h
theorem eg.ix {nodes:List Nd}:∀ (l:List T) (a i:Nat) (t:T),eg nodes a l->l[i]?=some t->fi nodes (a+aD (l.take i)) t
 | [],a,i,t,_,h=>by simp at h
 | u::r,a,0,t,h,hi=>by
  cases hi;rw [eg] at h;exact h.1
 | u::r,a,i+1,t,h,hi=>by
  rw [eg] at h;have:=eg.ix r (a+bc u) i t h.2 (by simpa using hi);rw [take_succ_cons,aD,<-iy];exact this
mutual
theorem Q7:∀ t:T,wt t<=my t
 | .mk n l=>by have:=Jb l;rw [wt,my];omega
theorem Jb:∀ l:List T,fM l<=iK l
 | []=>aH _
 | t::r=>by have:=Q7 t;have:=Jb r;rw [fM,iK];omega
end
theorem N7 {p:Src} {l:List T} {ls:List (List S)} (h:il p l) (hf:Forms l ls) (hw:cQ p<=1048576):GH p ls:=by
 have hl:=gz.len h.fns;refine ⟨by rw [hf.len];omega,fun i f b D X=>?_⟩;have hi:=(bu X).1;have hlen:=hf.len
 have ht:l[i]?=some (l[i]'aq):=by simp [<-hlen,hi]
 obtain ⟨h3,h4⟩:=hf.at_ i _ b ht X;obtain ⟨h5,h6⟩:=gz.at_ h.fns i f _ D ht;have h7:=eg.ix l 0 i _ h.st ht;rw [ed] at h5 h7;have hm:=br ht;have h8:=I1 h.st h.len _ hm;have h9:=Q7 (l[i]'aq);have oO:=fi.le _ _ h7;refine ⟨by omega,h3,by rw [<-h4,UR];omega,_,?_,h4⟩;rw [h5,jR];exact (yd _).1 _ _ h7 zfW
end Go.Im
namespace Go.Sp
open Go.Xp
def RS.left (p:RS):Nat:=p.l.length - p.i
theorem H3 {k:Nat} {s:ah} (h:(levels.getD k []).contains s=true):s≠[]/\k < 9/\s.length<=2:=by
 have hk:k < 9:=Nat.lt_of_not_le fun hk=>by
  rw [List.getD_eq_getElem?_getD,getElem?_eq_none (show levels.length<=k from hk)] at h;cases h
 have key:∀ k:Fin 9,∀ s∈levels.getD k.1 [],s≠[]/\s.length<=2:=by decide
 obtain ⟨D,X⟩:=key ⟨k,hk⟩ s (dz.1 h);exact ⟨D,hk,X⟩
theorem mD {p q:RS} (h:p.to q):q.left<=p.left/\q.left+(q.i - p.i)=p.left/\p.i<=q.i:=by
 obtain ⟨D,-,X,h3⟩:=h;unfold RS.left;rw [D] at X |-;omega
theorem wJ (p:RS) (d:Nat):(p.deep d).left=p.left:=by
 unfold RS.deep RS.fail RS.left;split
 ·split <;> rfl
 ·rfl
theorem rI {p:RS} (h:p.i < p.l.length):p.next.left+1=p.left:=by
 unfold RS.left RS.next;exact zcZ
def uj:J->Nat
 | .expr _=>13
 | .level k _=>12 - k
 | .loop _ _ _=>1
 | .operand _=>2
 | .named _ _ _=>1
theorem P8:∀ (f:Nat),(∀ j p,p.ok->(∀ k d,j=.level k d->k<=9)->20 * p.left+uj j<=f->∃ t q,mE f j p=some (t,q))/\(∀ d p,p.ok->20 * p.left+14<=f->∃ t q,mL f d p=some (t,q))/\(∀ d acc p,p.ok->20 * p.left+1<=f->∃ t q,rK f d acc p=some (t,q))
 | 0=>⟨fun j p _ hk h=>by
   cases j with
   | level k d=>have:=hk k d rfl;simp only [uj] at h;omega
   | _=>simp only [uj] at h;omega,fun d p _ h=>by omega,fun d acc p _ h=>by omega⟩
 | f+1=>by
  obtain ⟨D,X,h3⟩:=P8 f;obtain ⟨t1,t2,t3⟩:=tJ f
  have xH:∀ j:J,(∀ k d,j=.level k d->False)->∀ k d,j=.level k d->k<=9:=fun j h k d e=>(h k d e).elim
  refine ⟨fun j p hp hk h=>?_,fun d p hp h=>?_,fun d acc p hp h=>?_⟩
  ·cases j with
   | expr d =>
    rw [mE];exact D _ _ ((ik hp d).ok hp) (fun k d' e=>by cases e;omega) (by rw [wJ];simp only [uj] at h |-;omega)
   | level k d =>
    have BI:=hk k d rfl;rw [mE]
    by_cases e9:k=9
    ·rw [ae e9];exact D _ _ hp (fun k d' e=>by cases e) zfH
    ·rw [ab e9];obtain ⟨t,q,e⟩:=D (.level (k+1) d) p hp (fun k' d' e=>by cases e;omega) zfH;rw [e];have ht:=t1 _ _ _ _ hp e;exact D _ _ (ht.ok hp) (fun k d' e=>by cases e) zgr
   | loop k d out =>
    rw [mE]
    by_cases hc:p.code=0/\(levels.getD k []).contains (p.sign 0)=true
    ·rw [ae hc];obtain ⟨l1,l2,-⟩:=H3 hc.2;have au:=(dk (k:=0) rfl l1).1;rw [Nat.add_zero] at au;rw [ct au];simp only;have hn:=cE au;have KM:=rI au
     obtain ⟨t,q,e⟩:=D (.level (k+1) d) p.next (hn.ok hp) (fun k' d' e=>by cases e;omega) zfH
     rw [e];have ht:=t1 _ _ _ _ (hn.ok hp) e;exact D _ _ (ht.ok (hn.ok hp)) (fun k d' e=>by cases e) zgr
    ·rw [ab hc];exact zaD
   | operand d =>
    rw [mE];have hd:=(ik hp d).ok hp;have XB:=wJ p d;rw [<-XB] at h;generalize p.deep d=p at *
    try simp only
    split
    ·split
     ·exact zaD
     ·rename_i t ht;have au:=(bu ht).1;have hn:=cE au;have KM:=rI au;split
      ·exact zaD
      ·split
       ·exact D _ _ ((eO hd).ok hd) (fun k d' e=>by cases e) (by have:=mD (eO hd);simp only [uj] at h |-;omega)
       ·split
        ·obtain ⟨t,q,e⟩:=D (.operand (d+1)) p.next (hn.ok hd) (fun k d' e=>by cases e) zfH
         rw [e];exact zaD
        ·split
         ·obtain ⟨t,q,e⟩:=D (.expr (d+1)) p.next (hn.ok hd) (fun k d' e=>by cases e) zfH
          rw [e];exact zaD
         ·exact zaD
    ·exact zaD
   | named a s d =>
    rw [mE];split
    ·rename_i hs;have au:=(dk hs ao).1;rw [Nat.add_zero] at au;have hn:=cE au;have KM:=rI au
     obtain ⟨t,q,e⟩:=D (.expr (d+1)) p.next (hn.ok hp) (fun k d' e=>by cases e) zfH
     rw [e];exact zaD
    ·split
     ·rename_i hs;have au:=(dk hs ao).1;rw [Nat.add_zero] at au;have hn:=cE au;have KM:=rI au
      obtain ⟨t,q,e⟩:=X (d+1) p.next (hn.ok hp) (by simp only [uj] at h;omega)
      rw [e];exact zaD
     ·exact zaD
  ·rw [mL];split
   ·exact zaD
   ·obtain ⟨t,q,e⟩:=D (.expr d) p hp (fun k d' e=>by cases e) (by simp only [uj];omega);rw [e];have ht:=t1 _ _ _ _ hp e;exact h3 _ _ _ (ht.ok hp) (by have:=mD ht;omega)
  ·rw [rK];split
   ·rename_i hs;have au:=(dk hs ao).1;rw [Nat.add_zero] at au;have hn:=cE au;have KM:=rI au
    obtain ⟨t,q,e⟩:=D (.expr d) p.next (hn.ok hp) (fun k d' e=>by cases e) (by simp only [uj];omega)
    rw [e];have ht:=t1 _ _ _ _ (hn.ok hp) e;exact h3 _ _ _ (ht.ok (hn.ok hp)) (by have:=mD ht;omega)
   ·exact zaD
theorem xP {p:RS} (hp:p.ok) (d:Nat):∃ t q,mX d p=some (t,q):=by
 unfold mX;refine (P8 _).1 _ _ hp (fun k d' e=>by cases e) ?_;unfold fe RS.left;simp only [uj];have:=Nat.sub_le p.l.length p.i;omega
theorem sZ {p:RS} {s:ah} (hs:s≠[]) (h:(p.aL s).code=0):p.aL s=p.next/\p.code=0/\p.i < p.l.length:=by
 unfold RS.aL at h |-
 by_cases e:p.sign 0=s
 ·rw [ae e];have:=dk e hs;exact ⟨rfl,this.2,by have:=this.1;omega⟩
 ·rw [ab e] at h;exfalso;unfold RS.fail at h;split at h
  ·cases h
  ·contradiction
theorem Om {f d:Nat} {a:Int} {p q:RS} {t:T} (hp:p.ok) (au:p.i < p.l.length) (h:mS f (.cond a d) p=some (t,q)) (hc:q.code=0):p.i+1<=q.i:=by
 have:=(rf f).1 _ _ _ _ hp (fun a d' _=>au) h
 cases f with
 | zero=>simp [mS] at h
 | succ f =>
  rw [mS] at h;have hn:=cE au;have hm:=hn.trans (bG (hn.ok hp) (s:=[40]) ao)
  have h0:p.next.i=p.i+1:=rfl
  try simp only at h
  split at h
  ·cases h
  ·rename_i e p' he;have T9:=(bG (hn.ok hp) (s:=[40]) ao).trans (fO (hm.ok hp) he);have sd:=T9.trans (bG ((hn.trans T9).ok hp) (s:=[41]) ao);split at h
   ·cases h
   ·rename_i b p2 hb;have ej:=sd.trans ((rf f).1 _ _ _ _ ((hn.trans sd).ok hp) (fun a d' h=>by cases h) hb);split at h
    ·rename_i hs;have bZ:=ej.trans (dC hs.2 ao);split at h
     ·cases h
     ·rename_i b2 p3 vm;cases h;have:=(bZ.trans ((rf f).1 _ _ _ _ ((hn.trans bZ).ok hp) (fun a d' h=>by cases h) vm)).2.2.2;omega
    ·cases h;have:=ej.2.2.2;omega
theorem QE {f d:Nat} {p q:RS} {t:T} (hp:p.ok) (h:mS f (.stmt d) p=some (t,q)) (hc:q.code=0):p.i+1<=q.i:=by
 cases f with
 | zero=>simp [mS] at h
 | succ f =>
  rw [mS] at h;have hd:=ik hp d;have dv:=hd.ok hp;have hi:=hd.2.2.2;refine jg (Nat.add_le_add_right hi 1) ?_;generalize p.deep d=p' at *
  try simp only at h
  have last:∀ (q':RS),p'.to q'->(q'.aL [59]).code=0->p'.i+1<=(q'.aL [59]).i:=fun q' hq hc=>by
   obtain ⟨e,-,-⟩:=sZ ao hc;rw [e];have:=hq.2.2.2;show _<=q'.i+1;omega
  split at h
  ·rename_i hs;have hn:=dC hs ao;have dq:=hn.trans (eO (hn.ok dv));have fD:=dq.trans (bG (dq.ok dv) (s:=[61]) ao);split at h
   ·cases h
   ·rename_i e q' he
    cases h;exact last _ (fD.trans (fO (fD.ok dv) he)) hc
  ·split at h
   ·rename_i hs;refine Om dv ?_ h hc
    rcases hs with hs | hs
    ·exact zdU
    ·exact zdU
   ·split at h
    ·rename_i hs;have hn:=dC hs ao;split at h
     ·cases h
     ·rename_i e q' he
      cases h;exact last _ (hn.trans (fO (hn.ok dv) he)) hc
    ·split at h
     ·have dq:=eO dv;have fD:=dq.trans (bG (dq.ok dv) (s:=[61]) ao);split at h
      ·cases h
      ·rename_i e q' he
       cases h;exact last _ (fD.trans (fO (fD.ok dv) he)) hc
     ·split at h
      ·cases h
      ·rename_i e q' he;have hx:=fO dv he;split at h
       ·rename_i hs;have hn:=hx.trans (dC hs.2.2 ao);split at h
        ·rename_i a r v p2 hk nO
         cases h;exact last _ (hn.trans (fO (hn.ok dv) nO)) hc
        ·cases h
       ·cases h;exact last _ hx hc
theorem wK:∀ (f:Nat) (j:J) (p q:RS) (t:T),(∀ k d out,j=.loop k d out->out.n.kind=3->out.kids≠[])->mE f j p=some (t,q)->t.n.kind=3->t.kids≠[]
 | 0,j,p,q,t,_,h,_=>by simp [mE] at h
 | f+1,j,p,q,t,ho,h,h3=>by
  cases j with
  | expr d=>rw [mE] at h;exact zc7
  | level k d =>
   rw [mE] at h;split at h
   ·exact zc7
   ·split at h
    ·cases h
    ·rename_i out q' he;exact wK f _ _ _ _ (fun k d o e=>by cases e;exact wK f _ _ _ _ (fun k d o e=>by cases e) he) h h3
  | loop k d out =>
   rw [mE] at h;split at h
   ·split at h
    ·cases h
    ·split at h
     ·cases h
     ·exact wK f _ _ _ _ (fun k d o e h6=>by cases e;cases h6) h h3
   ·cases h;exact ho _ _ _ rfl h3
  | operand d =>
   rw [mE] at h;generalize p.deep d=p at *
   try simp only at h
   split at h
   ·split at h
    ·cases h;cases h3
    ·split at h
     ·cases h;cases h3
     ·split at h
      ·exact zc7
      ·split at h
       ·split at h
        ·cases h
        ·cases h;cases h3
       ·split at h
        ·split at h
         ·cases h
         ·rename_i a q' he;cases h;exact wK f _ _ _ _ (fun k d o e=>by cases e) he h3
        ·cases h;cases h3
   ·cases h;cases h3
  | named a s d =>
   rw [mE] at h;split at h
   ·split at h
    ·cases h
    ·cases h;exact fun e=>by cases e
   ·split at h
    ·split at h
     ·cases h
     ·cases h;cases h3
    ·cases h;cases h3
theorem P9:∀ (f:Nat),(∀ d p,p.ok->5 * p.left+4<=f->∃ t q,mS f (.block d) p=some (t,q))/\(∀ d p,p.ok->5 * p.left+2<=f->∃ t q,mS f (.stmt d) p=some (t,q))/\(∀ a d p,p.ok->p.i < p.l.length->5 * p.left+1<=f->∃ t q,mS f (.cond a d) p=some (t,q)) /\
  (∀ d acc p,p.ok->5 * p.left+3<=f->∃ t q,mB f d acc p=some (t,q))
 | 0=>⟨fun d p _ h=>by omega,fun d p _ h=>by omega,fun a d p _ _ h=>by omega,fun d acc p _ h=>by omega⟩
 | f+1=>by
  obtain ⟨D,X,h3,h4⟩:=P9 f;refine ⟨fun d p hp h=>?_,fun d p hp h=>?_,fun a d p hp au h=>?_,fun d acc p hp h=>?_⟩
  ·rw [mS];have hd:=(ik hp d).ok hp;rw [<-wJ p d] at h;generalize p.deep d=p at *
   try simp only
   have hm:=bG hd (s:=[123]) ao;obtain ⟨t,q,e⟩:=h4 (d+1) [] (p.aL [123]) (hm.ok hd) (by have:=mD hm;omega);rw [e];exact zaD
  ·rw [mS];have hd:=(ik hp d).ok hp;rw [<-wJ p d] at h;generalize p.deep d=p at *
   try simp only
   split
   ·rename_i hs;have hn:=dC hs ao;have dq:=hn.trans (eO (hn.ok hd));exact zcK
   ·split
    ·rename_i hs;refine h3 _ _ _ hd ?_ aq
     rcases hs with hs | hs
     ·exact zdU
     ·exact zdU
    ·split
     ·rename_i hs;have hn:=dC hs ao;obtain ⟨t,q,e⟩:=xP (hn.ok hd) (d+1);rw [e];exact zaD
     ·split
      ·have dq:=eO hd;exact zcK
      ·obtain ⟨t,q,e⟩:=xP hd (d+1);rw [e];have hx:=fO hd e;simp only;split
       ·rename_i hs;have hn:=hx.trans (dC hs.2.2 ao);obtain ⟨t2,q2,e2⟩:=xP (hn.ok hd) (d+1);rw [e2];have bT:=wK _ _ _ _ _ (fun k d o e=>by cases e) e hs.1
        cases hk:t.kids with
        | nil=>exact absurd hk bT
        | cons a r=>exact zaD
       ·exact zaD
  ·rw [mS];have hn:=cE au;have KM:=rI au;have hm:=hn.trans (bG (hn.ok hp) (s:=[40]) ao);obtain ⟨e,q,he⟩:=xP (hm.ok hp) (d+1);rw [he];simp only;have hx:=hm.trans (fO (hm.ok hp) he);have sd:=hx.trans (bG (hx.ok hp) (s:=[41]) ao)
   have hq:(q.aL [41]).left+1<=p.left:=by
    have a1:=mD (bG (hn.ok hp) (s:=[40]) ao);have a2:=mD (fO (hm.ok hp) he);have a3:=mD (bG (hx.ok hp) (s:=[41]) ao);omega
   obtain ⟨b,q2,hb⟩:=D (d+1) (q.aL [41]) (sd.ok hp) aq;rw [hb];simp only;have ej:=(rf f).1 _ _ _ _ (sd.ok hp) (fun a d' h=>by cases h) hb;split
   ·rename_i hs;have bZ:=(sd.trans ej).trans (dC hs.2 ao)
    obtain ⟨b2,q3,vm⟩:=D (d+1) q2.next (bZ.ok hp) (by
     have a1:=mD ej;have a2:=mD (dC hs.2 ao)
     omega)
    rw [vm];exact zaD
   ·exact zaD
  ·rw [mB];split
   ·obtain ⟨a,q,e⟩:=X d p hp aq;rw [e];simp only;have ht:=(rf f).1 _ _ _ _ hp (fun a d' h=>by cases h) e
    by_cases hc:q.code=0
    ·have:=QE hp e hc;refine h4 _ _ _ (ht.ok hp) ?_;have:=mD ht;omega
    ·cases f with
     | zero=>omega
     | succ f =>
      rw [mB,ab (fun h=>hc h.1)];exact zaD
   ·exact zaD
end Go.Sp
