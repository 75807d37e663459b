/- Part 7 of proofs that are told in their last texts. -/
import Derived.Test.YthgncfaljaocoaaGreatDoorY5
import Derived.Test.YthgncfaljaocoaaGreatDoorY2
open List (all_cons all_eq_false all_nil getElem?_map length_append length_cons length_map length_nil mem_of_getElem? take_add_one take_of_length_le)
set_option linter.unusedVariables false
set_option linter.unusedSimpArgs false
set_option maxRecDepth 100000
set_option maxHeartbeats 1000000
namespace Go.Xg
open Go.RowKit Go.Xw Go.Proofs
open Go.Xp (Tok Nd T aZ one levels Ar)
open Go.Sp
attribute [local irreducible] GW GL GO YG GC GA aQ aR
theorem UB (p:Src) (hp:p.nodes.length<=1000000000000) (hk:∀ n∈p.nodes,n.kids.length<=1000000000000):∀ (f a d:Nat) (e:Int),d<=801->nY p.nodes f a d=some e->GF Tryz.prog 127 [.agg (ak p),.v (ii (a:Nat)),.v (ii (d:Nat))] [] (.v (ii e)) []:=by
 intro f
 induction f using Nat.strongRecOn with
 | _ f ih =>
 intro a d e hd h
 cases f with
 | zero=>simp [nY] at h
 | succ f =>
 rw [nY] at h;refine cM Tryz.func127 Tryz.ntmps127 ?_
 by_cases h1:p.nodes.length<=a
 ·rw [if_pos (.inl h1)] at h;cases h
  have cr:decide (((p.nodes.map au).length:Int)<=(a:Int))=true:=by simpa using h1
  exact ar
 have cr:decide (((p.nodes.map au).length:Int)<=(a:Int))=false:=by simpa using h1
 by_cases h2:d > 800
 ·rw [if_pos (.inr h2)] at h;cases h
  have pY:decide ((800:Int) < (d:Int))=true:=by simpa using by omega
  exact ar
 have pY:decide ((800:Int) < (d:Int))=false:=by simpa using by omega
 rw [if_neg (by omega)] at h
 cases hn:p.nodes[a]? with
 | none=>rw [hn] at h;cases h
 | some n =>
 rw [hn] at h;simp only at h;have hr:=fV hn;have ef:=hk n (mem_of_getElem? hn);refine ab ?_
 refine GW.range (n.kids.map fun i=>[GV.v (ii i)]).length (fun k fr Γ=>∃ nx g,fr=[.any,.v (ii (a:Nat)),.v (ii (d:Nat)),.loc 0 0,.any,.any,.any,.v (ii nx),.any,.any,.any,.any,.any,.any,.any,.any,.any,.any,.any,.any,.any,.any,.any,.any,.any,.any,ints n.kids,.v (ii ((n.kids.map fun i=>[GV.v (ii i)]).length:Int)),.v (ii (k:Nat)),.any,.any,.any,.any,.any,.any,.any,.any,.any,.any,.any,.any,.any,.any,.any] /\
   Γ=[.box 34 (ak p)]/\0<=nx/\g<=f/\mY p.nodes g (n.kids.drop k) nx d=some e) ?_ (by simp;omega) ?_ ?_ ?_
 ·exact ⟨_,_,Wk.av aj,_,f,rfl,rfl,by omega,Nat.le_refl _,h⟩
 ·rintro k _ _ ⟨_,_,rfl,rfl,_⟩;exact ⟨rfl,rfl,rfl⟩
 ·rintro k _ _ ao ⟨nx,g,rfl,rfl,p8,hg,h⟩
  have ao:k < n.kids.length:=by simpa using ao
  have hx:n.kids[k]?=some n.kids[k]:=by simp [ao]
  rw [List.drop_eq_getElem_cons ao] at h;generalize n.kids[k]=x at *;have tS:=mq hx
  cases g with
  | zero=>simp [mY] at h
  | succ g =>
  rw [mY] at h
  by_cases hxn:x=nx
  ·subst hxn;rw [if_pos rfl] at h
   have hb:(x != x)=false:=by simp
   cases bq:nY p.nodes g x.toNat (d+1) with
   | none=>rw [bq] at h;cases h
   | some y =>
   rw [bq] at h;simp only at h;have yu:=ih g (by omega) x.toNat (d+1) y (by omega) bq;rw [Int.toNat_of_nonneg p8] at yu
   by_cases hy:y < 0
   ·rw [if_pos hy] at h;cases h
    have Tj:decide (y < (0:Int))=true:=by simpa using hy
    refine ab ?_;refine U [] (yu) ?_;exact al
   ·rw [if_neg hy] at h
    have Tj:decide (y < (0:Int))=false:=by simpa using hy
    refine ab ?_;refine U [] (yu) ?_;exact ⟨rfl,rfl,_,_,Wk.av aj,_,g,rfl,rfl,by omega,by omega,h⟩
  ·rw [if_neg hxn] at h;cases h
   have hb:(x != nx)=true:=by simpa using hxn
   exact ar
 ·rintro _ _ ⟨nx,g,rfl,rfl,p8,hg,h⟩;rw [length_map,List.drop_length] at h
  have kO:nx=e:=by cases g <;> (rw [mY] at h;cases h;rfl)
  subst kO;exact ar
end Go.Xg
namespace Go.Xg
open Go.RowKit Go.Xw Go.Proofs
open Go.Xp (Tok Nd T aZ one levels Ar)
open Go.Sp
attribute [local irreducible] GW GL GO YG GC GA aQ aR
theorem Vh (a n:Int) (s:ae) (ks:List Int) (l:List T) (hs:s.length<=1099511627776) (hl:l.length<=1099511627776) (ha:decide (a < 0)=false):GF Tryz.prog 151 [.agg (cT (.mk ⟨1,a,n,s,ks⟩ l))] [] (.v (.bool (bG (.mk ⟨1,a,n,s,ks⟩ l)))) []:=by
 have how:bG (.mk ⟨1,a,n,s,ks⟩ l)=(decide ((0:Int)<=n)&&(decide (n<=2147483647)&&((s==[])&&((l.length:Int)==0)))):=by unfold bG own;rw [if_neg (by show ¬ (decide (a < 0)=true);rw [ha];decide)];rfl
 rw [how];refine cM Tryz.func151 Tryz.ntmps151 ?_
 cases h0:decide ((0:Int)<=n) with
 | false =>
  exact ar
 | true =>
  cases h1:decide (n<=2147483647) with
  | false =>
   exact ar
  | true =>
   cases h2:(s==[]) with
   | false =>
    exact ar
   | true =>
    refine ab ?_;refine bI ?_;exact ⟨by first | rfl | (rw [aL];rfl),rfl⟩
theorem Vi (a:Int) (s:ae) (ks:List Int) (l:List T) (hs:s.length<=1099511627776) (hl:l.length<=1099511627776) (ha:decide (a < 0)=false):GF Tryz.prog 151 [.agg (cT (.mk ⟨2,a,0,s,ks⟩ l))] [] (.v (.bool (bG (.mk ⟨2,a,0,s,ks⟩ l)))) []:=by
 have how:bG (.mk ⟨2,a,0,s,ks⟩ l)=(be s&&((l.length:Int)==0)):=by unfold bG own;rw [if_neg (by show ¬ (decide (a < 0)=true);rw [ha];decide)];rfl
 rw [how];refine cM Tryz.func151 Tryz.ntmps151 ?_
 cases h0:be s with
 | false =>
  refine ab ?_;have hc:=dT s hs;rw [h0] at hc;refine U [] (hc) ?_;exact al
 | true =>
  refine ab ?_;have hc:=dT s hs;rw [h0] at hc;refine U [] (hc) ?_;refine bI ?_;exact ⟨by first | rfl | (rw [aL];rfl),rfl⟩
theorem Vj (a:Int) (s:ae) (ks:List Int) (l:List T) (hs:s.length<=1099511627776) (hl:l.length<=1099511627776) (ha:decide (a < 0)=false):GF Tryz.prog 151 [.agg (cT (.mk ⟨3,a,0,s,ks⟩ l))] [] (.v (.bool (bG (.mk ⟨3,a,0,s,ks⟩ l)))) []:=by
 have how:bG (.mk ⟨3,a,0,s,ks⟩ l)=(be s&&(((l.length:Int)==1)&&ba 1 0 l)):=by unfold bG own;rw [if_neg (by show ¬ (decide (a < 0)=true);rw [ha];decide)];rfl
 rw [how];refine cM Tryz.func151 Tryz.ntmps151 ?_
 cases h0:be s with
 | false =>
  refine ab ?_;have hc:=dT s hs;rw [h0] at hc;refine U [] (hc) ?_;exact al
 | true =>
  cases h1:((l.length:Int)==1) with
  | false =>
   have cr:((((aH l).length:Int)==1))=false:=by rw [<-aL l] at h1;exact h1
   refine ab ?_;have hc:=dT s hs;rw [h0] at hc;refine U [] (hc) ?_;exact al
  | true =>
   have cr:((((aH l).length:Int)==1))=true:=by rw [<-aL l] at h1;exact h1
   refine ab ?_;have hc:=dT s hs;rw [h0] at hc;refine U [] (hc) ?_;have hc:=eS (.mk ⟨3,a,0,s,ks⟩ l) 1 hl;refine U [] (hc) ?_;refine bI ?_;exact ⟨by first | rfl | (rw [aL];rfl),rfl⟩
theorem Vk (a:Int) (s:ae) (ks:List Int) (l:List T) (hs:s.length<=1099511627776) (hl:l.length<=1099511627776) (ha:decide (a < 0)=false):GF Tryz.prog 151 [.agg (cT (.mk ⟨4,a,0,s,ks⟩ l))] [] (.v (.bool (bG (.mk ⟨4,a,0,s,ks⟩ l)))) []:=by
 have how:bG (.mk ⟨4,a,0,s,ks⟩ l)=(be s&&ba l.length 0 l):=by unfold bG own;rw [if_neg (by show ¬ (decide (a < 0)=true);rw [ha];decide)];rfl
 rw [how];refine cM Tryz.func151 Tryz.ntmps151 ?_
 cases h0:be s with
 | false =>
  refine ab ?_;have hc:=dT s hs;rw [h0] at hc;refine U [] (hc) ?_;exact al
 | true =>
  refine ab ?_;have hc:=dT s hs;rw [h0] at hc;refine U [] (hc) ?_;have hc:=eS (.mk ⟨4,a,0,s,ks⟩ l) (aH l).length hl;refine U [] (hc) ?_;refine bI ?_;exact ⟨by first | rfl | (rw [aL];rfl),rfl⟩
theorem Vm (a:Int) (s:ae) (ks:List Int) (l:List T) (hs:s.length<=1099511627776) (hl:l.length<=1099511627776) (ha:decide (a < 0)=false):GF Tryz.prog 151 [.agg (cT (.mk ⟨6,a,0,s,ks⟩ l))] [] (.v (.bool (bG (.mk ⟨6,a,0,s,ks⟩ l)))) []:=by
 have how:bG (.mk ⟨6,a,0,s,ks⟩ l)=(ep s&&(((l.length:Int)==2)&&ba 2 0 l)):=by unfold bG own;rw [if_neg (by show ¬ (decide (a < 0)=true);rw [ha];decide)];rfl
 rw [how];refine cM Tryz.func151 Tryz.ntmps151 ?_
 cases h0:ep s with
 | false =>
  refine ab ?_;have hc:=sP s;rw [h0] at hc;refine U [] (hc) ?_;exact al
 | true =>
  cases h1:((l.length:Int)==2) with
  | false =>
   have cr:((((aH l).length:Int)==2))=false:=by rw [<-aL l] at h1;exact h1
   refine ab ?_;have hc:=sP s;rw [h0] at hc;refine U [] (hc) ?_;exact al
  | true =>
   have cr:((((aH l).length:Int)==2))=true:=by rw [<-aL l] at h1;exact h1
   refine ab ?_;have hc:=sP s;rw [h0] at hc;refine U [] (hc) ?_;have hc:=eS (.mk ⟨6,a,0,s,ks⟩ l) 2 hl;refine U [] (hc) ?_;refine bI ?_;exact ⟨by first | rfl | (rw [aL];rfl),rfl⟩
theorem Vn (a:Int) (s:ae) (ks:List Int) (l:List T) (hs:s.length<=1099511627776) (hl:l.length<=1099511627776) (ha:decide (a < 0)=false):GF Tryz.prog 151 [.agg (cT (.mk ⟨7,a,0,s,ks⟩ l))] [] (.v (.bool (bG (.mk ⟨7,a,0,s,ks⟩ l)))) []:=by
 have how:bG (.mk ⟨7,a,0,s,ks⟩ l)=(be s&&(((l.length:Int)==1)&&ba 1 0 l)):=by unfold bG own;rw [if_neg (by show ¬ (decide (a < 0)=true);rw [ha];decide)];rfl
 rw [how];refine cM Tryz.func151 Tryz.ntmps151 ?_
 cases h0:be s with
 | false =>
  refine ab ?_;have hc:=dT s hs;rw [h0] at hc;refine U [] (hc) ?_;exact al
 | true =>
  cases h1:((l.length:Int)==1) with
  | false =>
   have cr:((((aH l).length:Int)==1))=false:=by rw [<-aL l] at h1;exact h1
   refine ab ?_;have hc:=dT s hs;rw [h0] at hc;refine U [] (hc) ?_;exact al
  | true =>
   have cr:((((aH l).length:Int)==1))=true:=by rw [<-aL l] at h1;exact h1
   refine ab ?_;have hc:=dT s hs;rw [h0] at hc;refine U [] (hc) ?_;have hc:=eS (.mk ⟨7,a,0,s,ks⟩ l) 1 hl;refine U [] (hc) ?_;refine bI ?_;exact ⟨by first | rfl | (rw [aL];rfl),rfl⟩
theorem Vo (a:Int) (s:ae) (ks:List Int) (l:List T) (hs:s.length<=1099511627776) (hl:l.length<=1099511627776) (ha:decide (a < 0)=false):GF Tryz.prog 151 [.agg (cT (.mk ⟨8,a,0,s,ks⟩ l))] [] (.v (.bool (bG (.mk ⟨8,a,0,s,ks⟩ l)))) []:=by
 have how:bG (.mk ⟨8,a,0,s,ks⟩ l)=(be s&&(((l.length:Int)==2)&&ba 2 0 l)):=by unfold bG own;rw [if_neg (by show ¬ (decide (a < 0)=true);rw [ha];decide)];rfl
 rw [how];refine cM Tryz.func151 Tryz.ntmps151 ?_
 cases h0:be s with
 | false =>
  refine ab ?_;have hc:=dT s hs;rw [h0] at hc;refine U [] (hc) ?_;exact al
 | true =>
  cases h1:((l.length:Int)==2) with
  | false =>
   have cr:((((aH l).length:Int)==2))=false:=by rw [<-aL l] at h1;exact h1
   refine ab ?_;have hc:=dT s hs;rw [h0] at hc;refine U [] (hc) ?_;exact al
  | true =>
   have cr:((((aH l).length:Int)==2))=true:=by rw [<-aL l] at h1;exact h1
   refine ab ?_;have hc:=dT s hs;rw [h0] at hc;refine U [] (hc) ?_;have hc:=eS (.mk ⟨8,a,0,s,ks⟩ l) 2 hl;refine U [] (hc) ?_;refine bI ?_;exact ⟨by first | rfl | (rw [aL];rfl),rfl⟩
theorem TI (a:Int) (s:ae) (ks:List Int) (l:List T) (hs:s.length<=1099511627776) (hl:l.length<=1099511627776) (ha:decide (a < 0)=false):GF Tryz.prog 151 [.agg (cT (.mk ⟨10,a,0,s,ks⟩ l))] [] (.v (.bool (bG (.mk ⟨10,a,0,s,ks⟩ l)))) []:=by
 have how:bG (.mk ⟨10,a,0,s,ks⟩ l)=((s==[])&&(((l.length:Int)==2)&&ba 1 0 l)):=by unfold bG own;rw [if_neg (by show ¬ (decide (a < 0)=true);rw [ha];decide)];rfl
 rw [how];refine cM Tryz.func151 Tryz.ntmps151 ?_
 cases h0:(s==[]) with
 | false =>
  exact ar
 | true =>
  cases h1:((l.length:Int)==2) with
  | false =>
   have cr:((((aH l).length:Int)==2))=false:=by rw [<-aL l] at h1;exact h1
   exact ar
  | true =>
   have cr:((((aH l).length:Int)==2))=true:=by rw [<-aL l] at h1;exact h1
   refine ab ?_;have hc:=eS (.mk ⟨10,a,0,s,ks⟩ l) 1 hl;refine U [] (hc) ?_;refine bI ?_;exact ⟨by first | rfl | (rw [aL];rfl),rfl⟩
theorem TJ (a:Int) (s:ae) (ks:List Int) (l:List T) (hs:s.length<=1099511627776) (hl:l.length<=1099511627776) (ha:decide (a < 0)=false):GF Tryz.prog 151 [.agg (cT (.mk ⟨11,a,0,s,ks⟩ l))] [] (.v (.bool (bG (.mk ⟨11,a,0,s,ks⟩ l)))) []:=by
 have how:bG (.mk ⟨11,a,0,s,ks⟩ l)=((s==[])&&(((l.length:Int)==1)&&ba 1 0 l)):=by unfold bG own;rw [if_neg (by show ¬ (decide (a < 0)=true);rw [ha];decide)];rfl
 rw [how];refine cM Tryz.func151 Tryz.ntmps151 ?_
 cases h0:(s==[]) with
 | false =>
  exact ar
 | true =>
  cases h1:((l.length:Int)==1) with
  | false =>
   have cr:((((aH l).length:Int)==1))=false:=by rw [<-aL l] at h1;exact h1
   exact ar
  | true =>
   have cr:((((aH l).length:Int)==1))=true:=by rw [<-aL l] at h1;exact h1
   refine ab ?_;have hc:=eS (.mk ⟨11,a,0,s,ks⟩ l) 1 hl;refine U [] (hc) ?_;refine bI ?_;exact ⟨by first | rfl | (rw [aL];rfl),rfl⟩
theorem TK (a:Int) (s:ae) (ks:List Int) (l:List T) (hs:s.length<=1099511627776) (hl:l.length<=1099511627776) (ha:decide (a < 0)=false):GF Tryz.prog 151 [.agg (cT (.mk ⟨12,a,0,s,ks⟩ l))] [] (.v (.bool (bG (.mk ⟨12,a,0,s,ks⟩ l)))) []:=by
 have how:bG (.mk ⟨12,a,0,s,ks⟩ l)=((s==[])&&(((l.length:Int)==1)&&ba 1 0 l)):=by unfold bG own;rw [if_neg (by show ¬ (decide (a < 0)=true);rw [ha];decide)];rfl
 rw [how];refine cM Tryz.func151 Tryz.ntmps151 ?_
 cases h0:(s==[]) with
 | false =>
  exact ar
 | true =>
  cases h1:((l.length:Int)==1) with
  | false =>
   have cr:((((aH l).length:Int)==1))=false:=by rw [<-aL l] at h1;exact h1
   exact ar
  | true =>
   have cr:((((aH l).length:Int)==1))=true:=by rw [<-aL l] at h1;exact h1
   refine ab ?_;have hc:=eS (.mk ⟨12,a,0,s,ks⟩ l) 1 hl;refine U [] (hc) ?_;refine bI ?_;exact ⟨by first | rfl | (rw [aL];rfl),rfl⟩
theorem TL (a:Int) (s:ae) (ks:List Int) (l:List T) (hs:s.length<=1099511627776) (hl:l.length<=1099511627776) (ha:decide (a < 0)=false):GF Tryz.prog 151 [.agg (cT (.mk ⟨13,a,0,s,ks⟩ l))] [] (.v (.bool (bG (.mk ⟨13,a,0,s,ks⟩ l)))) []:=by
 have how:bG (.mk ⟨13,a,0,s,ks⟩ l)=(be s&&(((l.length:Int)==1)&&ba 1 0 l)):=by unfold bG own;rw [if_neg (by show ¬ (decide (a < 0)=true);rw [ha];decide)];rfl
 rw [how];refine cM Tryz.func151 Tryz.ntmps151 ?_
 cases h0:be s with
 | false =>
  refine ab ?_;have hc:=dT s hs;rw [h0] at hc;refine U [] (hc) ?_;exact al
 | true =>
  cases h1:((l.length:Int)==1) with
  | false =>
   have cr:((((aH l).length:Int)==1))=false:=by rw [<-aL l] at h1;exact h1
   refine ab ?_;have hc:=dT s hs;rw [h0] at hc;refine U [] (hc) ?_;exact al
  | true =>
   have cr:((((aH l).length:Int)==1))=true:=by rw [<-aL l] at h1;exact h1
   refine ab ?_;have hc:=dT s hs;rw [h0] at hc;refine U [] (hc) ?_;have hc:=eS (.mk ⟨13,a,0,s,ks⟩ l) 1 hl;refine U [] (hc) ?_;refine bI ?_;exact ⟨by first | rfl | (rw [aL];rfl),rfl⟩
end Go.Xg
namespace Go.Xg
open Go.RowKit Go.Xw Go.Proofs
open Go.Xp (Tok Nd T aZ one levels Ar)
open Go.Sp
attribute [local irreducible] GW GL GO YG GC GA aQ aR
theorem Vl (a:Int) (s:ae) (ks:List Int) (l:List T) (hs:s.length<=1099511627776) (hl:l.length<=1099511627776) (ha:decide (a < 0)=false):GF Tryz.prog 151 [.agg (cT (.mk ⟨5,a,0,s,ks⟩ l))] [] (.v (.bool (bG (.mk ⟨5,a,0,s,ks⟩ l)))) []:=by
 have how:bG (.mk ⟨5,a,0,s,ks⟩ l)=((s==[45] || s==[33] || s==[126])&&(((l.length:Int)==1)&&ba 1 0 l)):=by unfold bG own;rw [if_neg (by show ¬ (decide (a < 0)=true);rw [ha];decide)];rfl
 rw [how];refine cM Tryz.func151 Tryz.ntmps151 ?_
 cases h1:(s==[45]) with
 | true =>
  cases h4:((l.length:Int)==1) with
  | false =>
   have Lm:(((aH l).length:Int)==1)=false:=by rw [<-aL l] at h4;exact h4
   exact ar
  | true =>
   have Lm:(((aH l).length:Int)==1)=true:=by rw [<-aL l] at h4;exact h4
   refine ab ?_;have hc:=eS (.mk ⟨5,a,0,s,ks⟩ l) 1 hl;refine U [] (hc) ?_;exact al
 | false =>
  cases h2:(s==[33]) with
  | true =>
   cases h4:((l.length:Int)==1) with
   | false =>
    have Lm:(((aH l).length:Int)==1)=false:=by rw [<-aL l] at h4;exact h4
    exact ar
   | true =>
    have Lm:(((aH l).length:Int)==1)=true:=by rw [<-aL l] at h4;exact h4
    refine ab ?_;have hc:=eS (.mk ⟨5,a,0,s,ks⟩ l) 1 hl;refine U [] (hc) ?_;exact al
  | false =>
   cases h3:(s==[126]) with
   | false =>
    exact ar
   | true =>
    cases h4:((l.length:Int)==1) with
    | false =>
     have Lm:(((aH l).length:Int)==1)=false:=by rw [<-aL l] at h4;exact h4
     exact ar
    | true =>
     have Lm:(((aH l).length:Int)==1)=true:=by rw [<-aL l] at h4;exact h4
     refine ab ?_;have hc:=eS (.mk ⟨5,a,0,s,ks⟩ l) 1 hl;refine U [] (hc) ?_;exact al
theorem Vp (a:Int) (s:ae) (ks:List Int) (l:List T) (hs:s.length<=1099511627776) (hl:l.length<=1099511627776) (ha:decide (a < 0)=false):GF Tryz.prog 151 [.agg (cT (.mk ⟨9,a,0,s,ks⟩ l))] [] (.v (.bool (bG (.mk ⟨9,a,0,s,ks⟩ l)))) []:=by
 have how:bG (.mk ⟨9,a,0,s,ks⟩ l)=((s==[])&&((((l.length:Int)==2) || ((l.length:Int)==3))&&ba 1 0 l)):=by unfold bG own;rw [if_neg (by show ¬ (decide (a < 0)=true);rw [ha];decide)];rfl
 rw [how];refine cM Tryz.func151 Tryz.ntmps151 ?_
 cases h0:(s==[]) with
 | false =>
  exact ar
 | true =>
  cases h1:((l.length:Int)==2) with
  | true =>
   have cr:(((aH l).length:Int)==2)=true:=by rw [<-aL l] at h1;exact h1
   refine ab ?_;have hc:=eS (.mk ⟨9,a,0,s,ks⟩ l) 1 hl;refine U [] (hc) ?_;exact al
  | false =>
   have cr:(((aH l).length:Int)==2)=false:=by rw [<-aL l] at h1;exact h1
   cases h2:((l.length:Int)==3) with
   | true =>
    have pY:(((aH l).length:Int)==3)=true:=by rw [<-aL l] at h2;exact h2
    refine ab ?_;have hc:=eS (.mk ⟨9,a,0,s,ks⟩ l) 1 hl;refine U [] (hc) ?_;exact al
   | false =>
    have pY:(((aH l).length:Int)==3)=false:=by rw [<-aL l] at h2;exact h2
    exact ar
theorem TM (a:Int) (s:ae) (ks:List Int) (l:List T) (hs:s.length<=1099511627776) (hl:l.length<=1099511627776) (ha:decide (a < 0)=false):GF Tryz.prog 151 [.agg (cT (.mk ⟨14,a,0,s,ks⟩ l))] [] (.v (.bool (bG (.mk ⟨14,a,0,s,ks⟩ l)))) []:=by
 have how:bG (.mk ⟨14,a,0,s,ks⟩ l)=((l.all fun x=>fZ x.n.kind)&&(s==[])):=by unfold bG own;rw [if_neg (by show ¬ (decide (a < 0)=true);rw [ha];decide)];rfl
 rw [how];refine ah Tryz.func151 Tryz.ntmps151 ?_;refine GW.range (aH l).length (fun k fr Γ=>∃ n,fr=[.any,.loc 0 0,.any,.loc 1 0,.any,.any,.any,.any,.any,.any,.any,.any,.any,.any,.any,.any,.any,.any,.any,.any,.any,.any,.any,.any,.any,.any,.any,.any,.any,.any,.any,.any,.any,.any,.any,.any,.any,.any,.any,.any,.any,.any,.any,.any,.any,.any,.any,.any,.any,.any,.any,.any,.any,.any,.any,.any,.any,.any,.any,.any,.any,.any,.any,.any,.any,.any,.any,.any,.any,.any,.any,.any,.any,.any,.any,.any,.any,.any,.any,.any,.any,.any,.any,.any,.any,.any,.any,.any,.any,.any,.any,.any,.any,.any,.any,.any,.any,.any,.any,.any,.any,.any,.any,.any,.any,.any,.any,.any,.any,.any,.any,.any,.any,.any,.any,.any,.any,.any,.any,.any,.any,.any,.any,.any,.any,.any,.any,.any,.any,.any,.any,.any,.any,.any,.any,.any,.any,.any,.any,.any,.any,.any,.any,.any,.any,.any,.any,.any,.any,.any,.any,.any,.any,.any,.any,.any,.any,.any,.any,.any,.any,.any,.any,.any,.any,.any,.any,.any,.any,.any,.any,.any,.any,.any,.any,.any,.sl 6 (aH l),.v (ii ((aH l).length:Int)),.v (ii (k:Nat)),.any,.any,.any,.any,.any,.any,.any,.any,.any,.any,.any,.any]/\Γ=[.box 56 (cT (.mk ⟨14,a,0,s,ks⟩ l)),.box 53 n]/\n=au ⟨14,a,0,s,ks⟩/\((l.take k).all fun x=>fZ x.n.kind)=true) ?_ (by rw [aL];exact hl) ?_ ?_ ?_
 ·exact ⟨_,_,Wk.av aj,_,rfl,rfl,rfl,rfl⟩
 ·rintro k _ _ ⟨_,rfl,rfl,_⟩;exact ⟨rfl,rfl,rfl⟩
 ·rintro k _ _ hk ⟨_,rfl,rfl,rfl,hf⟩
  have hk:k < l.length:=by rw [aL] at hk;exact hk
  have hx:l[k]?=some l[k]:=by simp [hk]
  have hr:=cz hx;generalize l[k]=x at *;have he:=Gu x.n.kind
  cases hb:fZ x.n.kind with
  | true =>
   rw [hb] at he;refine ab ?_;refine U [] (he) ?_;exact ⟨rfl,rfl,_,_,(Wk.cut (n:=2) (Nat.le_of_ble_eq_true rfl) rfl).trans (Wk.av aj),_,rfl,rfl,rfl,by rw [take_add_one,hx,List.all_append,hf];simp only [Option.toList,all_cons,all_nil,hb];rfl⟩
  | false =>
   rw [hb] at he;refine ab ?_;refine U [] (he) ?_;refine bI ?_
   have ha:(l.all fun x=>fZ x.n.kind)=false:=by
    rw [all_eq_false];exact ⟨x,mem_of_getElem? hx,by simp [hb]⟩
   rw [ha];exact ⟨rfl,rfl⟩
 ·rintro _ _ ⟨_,rfl,rfl,rfl,hf⟩
  have hf:(l.all fun x=>fZ x.n.kind)=true:=by
   rw [take_of_length_le (by rw [aL];omega)] at hf;exact hf
  rw [hf];exact ar
theorem Vt (k a n:Int) (s:ae) (ks:List Int) (l:List T) (hk:k=1\/k=2\/k=3\/k=4\/k=5\/k=6\/k=7\/k=8\/k=9\/k=10\/k=11\/k=12\/k=13\/k=14\/True) (hx:¬ (k=1\/k=2\/k=3\/k=4\/k=5\/k=6\/k=7\/k=8\/k=9\/k=10\/k=11\/k=12\/k=13\/k=14)) (ha:decide (a < 0)=false) (hn:(n != 0)=false):GF Tryz.prog 151 [.agg (cT (.mk ⟨k,a,n,s,ks⟩ l))] [] (.v (.bool (bG (.mk ⟨k,a,n,s,ks⟩ l)))) []:=by
 simp only [not_or] at hx;obtain ⟨h1,h2,h3,h4,h5,h6,h7,h8,h9,kU,oe,nQ,eE,AG⟩:=hx
 have h1:(k==1)=false:=by simpa using h1
 have Z9:(k != 1)=true:=by simp only [bne,h1];rfl
 have h2:(k==2)=false:=by simpa using h2
 have h3:(k==3)=false:=by simpa using h3
 have h4:(k==4)=false:=by simpa using h4
 have h5:(k==5)=false:=by simpa using h5
 have h6:(k==6)=false:=by simpa using h6
 have h7:(k==7)=false:=by simpa using h7
 have h8:(k==8)=false:=by simpa using h8
 have h9:(k==9)=false:=by simpa using h9
 have kU:(k==10)=false:=by simpa using kU
 have oe:(k==11)=false:=by simpa using oe
 have nQ:(k==12)=false:=by simpa using nQ
 have eE:(k==13)=false:=by simpa using eE
 have AG:(k==14)=false:=by simpa using AG
 have how:bG (.mk ⟨k,a,n,s,ks⟩ l)=false:=by
  show own ⟨k,a,n,s,ks⟩ _ _ _=_;simp [own,h1,h2,h3,h4,h5,h6,h7,h8,h9,kU,oe,nQ,eE,AG]
 rw [how];refine ah Tryz.func151 Tryz.ntmps151 ?_;exact al
theorem Vq (k a n:Int) (s:ae) (ks:List Int) (l:List T) (ha:decide (a < 0)=true):GF Tryz.prog 151 [.agg (cT (.mk ⟨k,a,n,s,ks⟩ l))] [] (.v (.bool (bG (.mk ⟨k,a,n,s,ks⟩ l)))) []:=by
 have how:bG (.mk ⟨k,a,n,s,ks⟩ l)=false:=by
  show own ⟨k,a,n,s,ks⟩ _ _ _=_;unfold own;rw [if_pos ha]
 rw [how];refine ah Tryz.func151 Tryz.ntmps151 ?_;exact al
theorem Vs (k a n:Int) (s:ae) (ks:List Int) (l:List T) (ha:decide (a < 0)=false) (hk:(k != 1)=true) (hn:(n != 0)=true):GF Tryz.prog 151 [.agg (cT (.mk ⟨k,a,n,s,ks⟩ l))] [] (.v (.bool (bG (.mk ⟨k,a,n,s,ks⟩ l)))) []:=by
 have how:bG (.mk ⟨k,a,n,s,ks⟩ l)=false:=by
  show own ⟨k,a,n,s,ks⟩ _ _ _=_;unfold own;rw [if_neg (by show ¬ (decide (a < 0)=true);rw [ha];decide),if_pos (by show ((k != 1)&&(n != 0))=true;rw [hk,hn];rfl)]
 rw [how];refine ah Tryz.func151 Tryz.ntmps151 ?_;exact al
theorem Oe (t:T) (hs:t.n.s.length<=1099511627776) (hl:t.kids.length<=1099511627776):GF Tryz.prog 151 [.agg (cT t)] [] (.v (.bool (bG t))) []:=by
 obtain ⟨⟨k,a,n,s,ks⟩,l⟩:=t
 cases ha:decide (a < 0) with
 | true=>exact Vq k a n s ks l ha
 | false =>
 by_cases tR:k=1
 ·subst tR;exact Vh a n s ks l hs hl ha
 by_cases hn:n=0
 ·subst hn
  by_cases h:k=1\/k=2\/k=3\/k=4\/k=5\/k=6\/k=7\/k=8\/k=9\/k=10\/k=11\/k=12\/k=13\/k=14
  ·rcases h with rfl | rfl | rfl | rfl | rfl | rfl | rfl | rfl | rfl | rfl | rfl | rfl | rfl | rfl
   ·exact absurd rfl tR
   ·exact Vi a s ks l hs hl ha
   ·exact Vj a s ks l hs hl ha
   ·exact Vk a s ks l hs hl ha
   ·exact Vl a s ks l hs hl ha
   ·exact Vm a s ks l hs hl ha
   ·exact Vn a s ks l hs hl ha
   ·exact Vo a s ks l hs hl ha
   ·exact Vp a s ks l hs hl ha
   ·exact TI a s ks l hs hl ha
   ·exact TJ a s ks l hs hl ha
   ·exact TK a s ks l hs hl ha
   ·exact TL a s ks l hs hl ha
   ·exact TM a s ks l hs hl ha
  ·exact Vt k a 0 s ks l (by simp) h ha rfl
 ·exact Vs k a n s ks l ha (by simpa using tR) (by simpa using hn)
end Go.Xg
namespace Go.Xg
open Go.RowKit Go.Xw Go.Proofs
open Go.Xp (Tok Nd T aZ one levels Ar)
open Go.Sp
attribute [local irreducible] GW GL GO YG GC GA aQ aR
theorem Km (l:List T):bK l=l.all cZ:=by
 induction l with
 | nil=>simp [bK]
 | cons a l ih=>simp [bK,ih]
theorem Od:∀ (sz:Nat) (t:T),SizeOf.sizeOf t<=sz->FD t->GF Tryz.prog 128 [.agg (cT t)] [] (.v (.bool (cZ t))) []:=by
 intro sz
 induction sz with
 | zero=>intro t h _;cases t;simp at h
 | succ sz ih =>
 intro t b6 iO;obtain ⟨n,l⟩:=t;have Z6:=iO;rw [FD] at iO;obtain ⟨hs,hl,hm⟩:=iO
 have how:cZ (.mk n l)=(bK l&&bG (.mk n l)):=by rw [cZ]
 rw [how];rw [Km];refine ah Tryz.func128 Tryz.ntmps128 ?_;refine GW.range (aH l).length (fun k fr Γ=>fr=[.any,.loc 0 0,.any,.any,.any,.any,.sl 6 (aH l),.v (ii ((aH l).length:Int)),.v (ii (k:Nat)),.any,.any,.any,.any,.any,.any,.any,.any,.any]/\Γ=[.box 56 (cT (.mk n l))]/\((l.take k).all cZ)=true) ?_ (by rw [aL];exact hl) ?_ ?_ ?_
 ·exact ⟨_,_,Wk.av aj,rfl,rfl,rfl⟩
 ·rintro k _ _ ⟨rfl,rfl,_⟩;exact ⟨rfl,rfl,rfl⟩
 ·rintro k _ _ hk ⟨rfl,rfl,hf⟩
  have hk:k < l.length:=by rw [aL] at hk;exact hk
  have hx:l[k]?=some l[k]:=by simp [hk]
  have BW:=mem_of_getElem? hx;have ao:=List.sizeOf_lt_of_mem BW;have hr:=cz hx;have he:=ih l[k] (by simp at b6;omega) (FF hm BW);generalize l[k]=x at *
  cases hb:cZ x with
  | true =>
   rw [hb] at he;refine ab ?_;refine U [] (he) ?_;exact ⟨rfl,rfl,_,_,(Wk.cut (n:=1) (Nat.le_of_ble_eq_true rfl) rfl).trans (Wk.av aj),rfl,rfl,by rw [take_add_one,hx,List.all_append,hf];simp only [Option.toList,all_cons,all_nil,hb];rfl⟩
  | false =>
   rw [hb] at he;refine ab ?_;refine U [] (he) ?_;refine bI ?_
   have ha:(l.all cZ)=false:=by
    rw [all_eq_false];exact ⟨x,mem_of_getElem? hx,by simp [hb]⟩
   rw [ha];exact ⟨rfl,rfl⟩
 ·rintro _ _ ⟨rfl,rfl,hf⟩
  have hf:(l.all cZ)=true:=by
   rw [take_of_length_le (by rw [aL];omega)] at hf;exact hf
  rw [hf];refine ab ?_;refine U [] (Oe (.mk n l) hs hl) ?_;exact al
theorem Oc (t:T) (h:FD t):GF Tryz.prog 128 [.agg (cT t)] [] (.v (.bool (cZ t))) []:=Od _ t (Nat.le_refl _) h
end Go.Xg
namespace Go.Xg
open Go.RowKit Go.Xw Go.Proofs
open Go.Xp (Tok Nd T aZ one levels Ar)
open Go.Sp
attribute [local irreducible] GW GL GO YG GC GA aQ aR
structure Bl (p:Src):Prop where
 globals:p.globals.length<=1000000000000/\∀ s∈p.globals,s.length<=1000000000000
 arrays:p.arrays.length<=1000000000000/\∀ a∈p.arrays,a.name.length<=1000000000000
 fns:p.fns.length<=1000000000000/\∀ f∈p.fns,f.name.length<=1000000000000/\f.params.length<=1000000000000/\∀ s∈f.params,s.length<=1000000000000
 nodes:p.nodes.length<=1000000000000/\∀ n∈p.nodes,n.s.length<=1000000000000/\n.kids.length<=1000000000000
theorem Ie {l:List ae} {i:Nat} {s:ae} (h:l[i]?=some s):(l.map fun s=>[GV.v (sv s)])[i]?=some [.v (sv s)]:=by rw [getElem?_map,h];rfl
theorem Fs {l:List Ar} {i:Nat} {s:Ar} (h:l[i]?=some s):(l.map ay)[i]?=some (ay s):=by rw [getElem?_map,h];rfl
theorem Be {l:List Go.Sp.Fn} {i:Nat} {s:Go.Sp.Fn} (h:l[i]?=some s):(l.map aq)[i]?=some (aq s):=by rw [getElem?_map,h];rfl
theorem uJ {α:Type} {l:List α} {q:α->Bool} {k:Nat} {x:α} (hx:l[k]?=some x) (hb:q x=false):l.all q=false:=by
 rw [all_eq_false];exact ⟨x,mem_of_getElem? hx,by simp [hb]⟩
theorem A6 (p:Src) (hp:Bl p) (b:Bool) (h:nN p=some b):GF Tryz.prog 100 [.agg (ak p)] [] (.v (.bool b)) []:=by
 unfold nN at h;refine ah Tryz.func100 Tryz.ntmps100 ?_;refine GW.range (p.globals.map fun s=>[GV.v (sv s)]).length (fun k fr Γ=>fr=[.any,.loc 0 0,.any,.v (ii 0),.any,.any,.any,.any,.any,.any,.any,.any,.any,.any,.any,strs p.globals,.v (ii ((p.globals.map fun s=>[GV.v (sv s)]).length:Int)),.v (ii (k:Nat)),.any,.any,.any,.any,.any,.any,.any,.any,.any,.any,.any,.any,.any,.any,.any,.any,.any,.any,.any,.any,.any,.any,.any,.any,.any,.any,.any,.any,.any,.any,.any,.any,.any,.any,.any,.any,.any,.any,.any,.any,.any,.any,.any,.any,.any,.any,.any,.any,.any,.any,.any,.any,.any,.any,.any,.any,.any,.any,.any,.any,.any,.any,.any,.any,.any,.any,.any,.any,.any,.any,.any,.any,.any,.any,.any,.any,.any,.any,.any,.any,.any,.any,.any,.any,.any,.any,.any]/\Γ=[.box 34 (ak p)]/\((p.globals.take k).all be)=true) ?_ (by simpa using by have:=hp.globals.1;omega) ?_ ?_ ?_
 ·exact ⟨_,_,Wk.av aj,rfl,rfl,rfl⟩
 ·rintro k _ _ ⟨rfl,rfl,_⟩;exact ⟨rfl,rfl,rfl⟩
 ·rintro k _ _ hk ⟨rfl,rfl,hf⟩
  have hk:k < p.globals.length:=by simpa using hk
  have hx:p.globals[k]?=some p.globals[k]:=by simp [hk]
  have hr:=Ie hx;have hl:=hp.globals.2 _ (mem_of_getElem? hx);generalize p.globals[k]=x at *;have he:=dT x (by omega)
  cases hb:be x with
  | true =>
   rw [hb] at he;refine ab ?_;refine U [] (he) ?_;exact ⟨rfl,rfl,_,_,Wk.av aj,rfl,rfl,so hx hf hb⟩
  | false =>
   rw [hb] at he;rw [if_pos (show ca p.globals=false from uJ hx hb)] at h;cases h;refine ab ?_;refine U [] (he) ?_;exact al
 ·rintro _ _ ⟨rfl,rfl,hf⟩;rw [take_of_length_le (by simp)] at hf;rw [if_neg (by rw [show ca p.globals=true from hf];decide)] at h;refine ab ?_;refine GW.range (p.arrays.map ay).length (fun k fr Γ=>fr=[.any,.loc 0 0,.any,.v (ii 0),.any,.any,.any,.any,.any,.any,.any,.any,.any,.any,.any,.any,.any,.any,.any,.any,.any,.any,.any,.any,.any,.any,.sl 2 (p.arrays.map ay),.v (ii ((p.arrays.map ay).length:Int)),.v (ii (k:Nat)),.any,.any,.any,.any,.any,.any,.any,.any,.any,.any,.any,.any,.any,.any,.any,.any,.any,.any,.any,.any,.any,.any,.any,.any,.any,.any,.any,.any,.any,.any,.any,.any,.any,.any,.any,.any,.any,.any,.any,.any,.any,.any,.any,.any,.any,.any,.any,.any,.any,.any,.any,.any,.any,.any,.any,.any,.any,.any,.any,.any,.any,.any,.any,.any,.any,.any,.any,.any,.any,.any,.any,.any,.any,.any,.any,.any]/\Γ=[.box 34 (ak p)]/\((p.arrays.take k).all nX)=true) ?_ (by simpa using by have:=hp.arrays.1;omega) ?_ ?_ ?_
  ·exact ⟨_,_,Wk.av aj,rfl,rfl,rfl⟩
  ·rintro k _ _ ⟨rfl,rfl,_⟩;exact ⟨rfl,rfl,rfl⟩
  ·rintro k _ _ hk ⟨rfl,rfl,hf⟩
   have hk:k < p.arrays.length:=by simpa using hk
   have hx:p.arrays[k]?=some p.arrays[k]:=by simp [hk]
   have hr:=Fs hx;have hl:=hp.arrays.2 _ (mem_of_getElem? hx);generalize p.arrays[k]=x at *;have he:=dT x.name (by omega)
   cases hb:be x.name with
   | false =>
    rw [hb] at he;rw [if_pos (uJ hx (by simp [nX,hb]))] at h;cases h;refine ab ?_;refine U [] (he) ?_;exact al
   | true =>
    rw [hb] at he
    cases h1:decide (x.size < 0) with
    | true =>
     rw [if_pos (uJ hx (by simp only [nX,hb,h1];rfl))] at h;cases h;refine ab ?_;refine U [] (he) ?_;exact al
    | false =>
     cases h2:decide (2147483647 < x.size) with
     | true =>
      rw [if_pos (uJ hx (by simp only [nX,hb,h1,h2];rfl))] at h;cases h;refine ab ?_;refine U [] (he) ?_;exact al
     | false =>
      refine ab ?_;refine U [] (he) ?_;exact ⟨rfl,rfl,_,_,(Wk.cut (n:=1) (Nat.le_of_ble_eq_true rfl) rfl).trans (Wk.av aj),rfl,rfl,so hx hf (by simp only [nX,hb,h1,h2];rfl)⟩
  ·rintro _ _ ⟨rfl,rfl,hf⟩;rw [take_of_length_le (by simp)] at hf;rw [if_neg (by rw [hf];decide)] at h;refine ab ?_;refine GW.range (p.fns.map aq).length (fun k fr Γ=>∃ nx,fr=[.any,.loc 0 0,.any,.v (ii nx),.any,.any,.any,.any,.any,.any,.any,.any,.any,.any,.any,.any,.any,.any,.any,.any,.any,.any,.any,.any,.any,.any,.any,.any,.any,.any,.any,.any,.any,.any,.any,.any,.any,.any,.any,.any,.any,.any,.any,.any,.any,.any,.any,.any,.sl 3 (p.fns.map aq),.v (ii ((p.fns.map aq).length:Int)),.v (ii (k:Nat)),.any,.any,.any,.any,.any,.any,.any,.any,.any,.any,.any,.any,.any,.any,.any,.any,.any,.any,.any,.any,.any,.any,.any,.any,.any,.any,.any,.any,.any,.any,.any,.any,.any,.any,.any,.any,.any,.any,.any,.any,.any,.any,.any,.any,.any,.any,.any,.any,.any,.any,.any,.any,.any,.any]/\Γ=[.box 34 (ak p)]/\0<=nx/\(match fS p.nodes (p.fns.drop k) nx with | none=>none | some none=>some false | some (some next)=>some (next==(p.nodes.length:Int)&&decide (next<=800)))=some b) ?_ (by simpa using by have:=hp.fns.1;omega) ?_ ?_ ?_
   ·exact ⟨_,_,Wk.av aj,_,rfl,rfl,Int.le_refl _,h⟩
   ·rintro k _ _ ⟨_,rfl,rfl,_⟩;exact ⟨rfl,rfl,rfl⟩
   ·clear h hf;rintro k _ _ hk ⟨nx,rfl,rfl,p8,h⟩
    have hk:k < p.fns.length:=by simpa using hk
    have hx:p.fns[k]?=some p.fns[k]:=by simp [hk]
    have hr:=Be hx;have hl:=hp.fns.2 _ (mem_of_getElem? hx);rw [List.drop_eq_getElem_cons hk,fS] at h;generalize p.fns[k]=x at *
    cases he:nY p.nodes (fN p.nodes) nx.toNat 0 with
    | none=>rw [he] at h;cases h
    | some e =>
    rw [he] at h;simp only at h;have v7:=UB p hp.nodes.1 (fun n hn=>(hp.nodes.2 n hn).2) _ _ 0 _ (by omega) he;rw [Int.toNat_of_nonneg p8] at v7;have bV:=dT x.name (by omega)
    by_cases h1:x.body=nx
    ·have cr:(x.body != nx)=false:=by simpa using h1
     cases hb:be x.name with
     | false =>
      rw [hb] at bV;rw [if_pos (.inr (.inl hb))] at h;cases h;refine ab ?_;refine U [] (v7) ?_;refine U [] (bV) ?_;exact al
     | true =>
      rw [hb] at bV
      by_cases h2:e < 0
      ·have pY:decide (e < 0)=true:=by simpa using h2
       rw [if_pos (.inr (.inr h2))] at h;cases h;refine ab ?_;refine U [] (v7) ?_;refine U [] (bV) ?_;exact al
      ·have pY:decide (e < 0)=false:=by simpa using h2
       rw [if_neg (by rw [hb];simp [h1,h2])] at h;refine ab ?_;refine U [] (v7) ?_;refine U [] (bV) ?_;refine GW.range (x.params.map fun s=>[GV.v (sv s)]).length (fun j fr Γ=>fr=[.any,.loc 0 0,.any,.v (ii nx),.any,.any,.any,.any,.any,.loc 1 0,.v (ii e),.any,.any,.any,.any,.any,.any,.any,.any,.any,.any,.any,.any,.any,.any,.any,.any,.any,.any,.any,.any,.any,.any,.any,.any,.any,.any,.any,.any,.any,.any,.any,.any,.any,.any,.any,.any,.any,.sl 3 (p.fns.map aq),.v (ii ((p.fns.map aq).length:Int)),.v (ii (k:Nat)),.any,.any,.any,.any,.any,.any,.any,.any,.any,.any,.any,.any,.any,.any,.any,.any,.any,.any,.any,.any,.any,strs x.params,.v (ii ((x.params.map fun s=>[GV.v (sv s)]).length:Int)),.v (ii (j:Nat)),.any,.any,.any,.any,.any,.any,.any,.any,.any,.any,.any,.any,.any,.any,.any,.any,.any,.any,.any,.any,.any,.any,.any,.any,.any,.any,.any,.any,.any,.any]/\Γ=[.box 34 (ak p),.box 85 (aq x)]/\((x.params.take j).all be)=true) ?_ (by simpa using by omega) ?_ ?_ ?_
       ·exact ⟨_,_,Wk.av aj,rfl,rfl,rfl⟩
       ·rintro k _ _ ⟨rfl,rfl,_⟩;exact ⟨rfl,rfl,rfl⟩
       ·rintro j _ _ hj ⟨rfl,rfl,hf⟩
        have hj:j < x.params.length:=by simpa using hj
        have rL:x.params[j]?=some x.params[j]:=by simp [hj]
        have HF:=Ie rL;have eA:=hl.2.2 _ (mem_of_getElem? rL);generalize x.params[j]=y at *;have bH:=dT y (by omega)
        cases hb:be y with
        | true =>
         rw [hb] at bH;refine ab ?_;refine U [] (bH) ?_;exact ⟨rfl,rfl,_,_,Wk.av aj,rfl,rfl,so rL hf hb⟩
        | false =>
         rw [hb] at bH;rw [if_pos (show ca x.params=false from uJ rL hb)] at h;cases h;refine ab ?_;refine U [] (bH) ?_;exact al
       ·rintro _ _ ⟨rfl,rfl,hf⟩;rw [take_of_length_le (by simp)] at hf;rw [if_neg (by rw [show ca x.params=true from hf];decide)] at h
        cases hs:sub p.nodes (fN p.nodes) nx.toNat with
        | none=>rw [hs] at h;cases h
        | some t =>
        rw [hs] at h;simp only at h;have pB:=DH p (fun n hn=>(hp.nodes.2 n hn).2) _ _ _ hs;rw [Int.toNat_of_nonneg p8] at pB;have aK:=Oc t ((Ua (fun n hn=>by have:=hp.nodes.2 n hn;omega) _).1 _ _ hs)
        by_cases h3:t.n.kind=14
        ·have jQ:(t.n.kind != 14)=false:=by simpa using h3
         cases hb:cZ t with
         | false =>
          rw [hb] at aK;rw [if_pos (.inr hb)] at h;cases h;refine ab ?_;refine U [] (pB) ?_;refine U [] (aK) ?_;exact al
         | true =>
          rw [hb] at aK;rw [if_neg (by rw [hb];simp [h3])] at h;refine ab ?_;refine U [] (pB) ?_;refine U [] (aK) ?_;exact ⟨rfl,rfl,_,_,(Wk.cut (n:=1) (Nat.le_of_ble_eq_true rfl) rfl).trans (Wk.av aj),_,rfl,rfl,by omega,h⟩
        ·have jQ:(t.n.kind != 14)=true:=by simpa using h3
         rw [if_pos (.inl h3)] at h;cases h;refine ab ?_;refine U [] (pB) ?_;exact al
    ·have cr:(x.body != nx)=true:=by simpa using h1
     rw [if_pos (.inl h1)] at h;cases h;refine ab ?_;refine U [] (v7) ?_;exact al
   ·clear h hf;rintro _ _ ⟨nx,rfl,rfl,p8,h⟩;rw [length_map,List.drop_length,fS] at h;simp only at h;cases h
    cases h1:(nx==(p.nodes.length:Int)) with
    | false =>
     have cr:(nx==((p.nodes.map au).length:Int))=false:=by rw [length_map];exact h1
     exact ar
    | true =>
     have cr:(nx==((p.nodes.map au).length:Int))=true:=by rw [length_map];exact h1
     exact ar
end Go.Xg
namespace Go.Xg
open Go.RowKit Go.Xw Go.Proofs
open Go.Xp (Tok Nd T aZ one levels Ar)
open Go.Sp
attribute [local irreducible] GW GL GO YG GC GA aQ aR
def mu (k:Int) (s:ae):Int:=if k=6 then (match levels.findIdx? (fun l=>l.contains s) with | some i=>(i:Int) | none => -1) else 9
theorem Js (t:T):GF Tryz.prog 217 [.agg (cT t)] [] (.v (.int .i64 (mu t.n.kind t.n.s))) []:=by
 refine cM Tryz.func217 Tryz.ntmps217 ?_
 by_cases h6:t.n.kind=6
 ·have Ye:(t.n.kind != 6)=false:=by simpa using h6
  unfold mu;rw [if_pos h6];refine ab ?_;refine U [] (jv) ?_;refine GW.range (levels.map fun l=>[strs l]).length (fun k fr Γ=>fr=[.any,.loc 0 0,.any,.any,.any,.any,.any,.any,.any,.any,.any,.sl 1 (levels.map fun l=>[strs l]),.v (ii ((levels.map fun l=>[strs l]).length:Int)),.v (ii (k:Nat)),.any,.any,.any,.any,.any,.any,.any,.any,.any,.any,.any]/\Γ=[.box 56 (cT t)]/\((levels.take k).any fun l=>l.contains t.n.s)=false) ?_ (by decide) ?_ ?_ ?_
  ·exact ⟨_,_,Wk.av aj,rfl,rfl,rfl⟩
  ·rintro k _ _ ⟨rfl,rfl,_⟩;exact ⟨rfl,rfl,rfl⟩
  ·rintro k _ _ hk ⟨rfl,rfl,hf⟩
   have hk:k < levels.length:=by simpa using hk
   have hx:levels[k]?=some levels[k]:=by simp [hk]
   have hr:(levels.map fun l=>[strs l])[k]?=some [strs levels[k]]:=by simp [hk]
   have zg:levels[k].length<=1099511627776:=by
    have:∀ l∈levels,l.length<=1099511627776:=by decide
    exact this _ (List.getElem_mem hk)
   have y8:levels[k].contains t.n.s=true->levels.findIdx? (fun l=>l.contains t.n.s)=some k:=by
    intro hc;rw [List.findIdx?_eq_some_iff_getElem];refine ⟨hk,hc,fun j hj=>?_⟩;rw [List.any_eq_false] at hf;refine hf _ ?_;rw [List.mem_take_iff_getElem];exact ⟨j,by omega,rfl⟩
   generalize levels[k]=x at *;have hh:=gE x t.n.s zg
   cases hb:x.contains t.n.s with
   | true =>
    rw [hb] at hh;rw [y8 hb];refine ab ?_;refine U [] (hh) ?_;exact al
   | false =>
    rw [hb] at hh;refine ab ?_;refine U [] (hh) ?_;exact ⟨rfl,rfl,_,_,Wk.av aj,rfl,rfl,by rw [take_add_one,hx,List.any_append,hf];simp only [Option.toList,List.any_cons,List.any_nil,hb];rfl⟩
  ·rintro _ _ ⟨rfl,rfl,hf⟩;rw [take_of_length_le (by simp)] at hf
   have hn:levels.findIdx? (fun l=>l.contains t.n.s)=none:=by
    rw [List.findIdx?_eq_none_iff];intro x hx;rw [List.any_eq_false] at hf;simpa using hf x hx
   rw [hn];exact ar
 ·have Ye:(t.n.kind != 6)=true:=by simpa using h6
  unfold mu;rw [if_neg h6];refine ab ?_;refine U [] (jv) ?_;exact al
end Go.Xg
namespace Go.Xg
open Go.RowKit Go.Xw Go.Proofs
open Go.Xp (Tok Nd T aZ one levels Ar yJ cn oE)
open Go.Sp
attribute [local irreducible] GW GL GO YG GC GA aQ aR
theorem Qs (n:Int):GF Tryz.prog 243 [.v (ii n)] [] (.v (ii (n % 4294967296))) []:=by
 refine ah Tryz.func243 Tryz.ntmps243 ?_;exact al
theorem RY (n:Int):GF Tryz.prog 232 [.v (ii n)] [] (.v (ii (yJ n))) []:=by
 unfold yJ
 have hb:0<=n % 4294967296/\n % 4294967296 < 4294967296:=by omega
 have hp:=Qs n;generalize n % 4294967296=m at *;refine cM Tryz.func232 Tryz.ntmps232 ?_
 by_cases h:m > 2147483647
 ·have h':decide ((2147483647:Int) < m)=true:=by simpa using h
  rw [if_pos h];refine ab ?_;refine U [] (hp) ?_;exact al
 ·have h':decide ((2147483647:Int) < m)=false:=by simpa using h
  rw [if_neg h];refine ab ?_;refine U [] (hp) ?_;exact al
theorem xT (k:Nat) (h:k<=57):[[GV.v (.int .u8 (k:Int))]]=[UInt8.ofNat k].map fun c=>[GV.v (.int .u8 (c.toNat:Int))]:=by
 have:(UInt8.ofNat k).toNat=k:=by simp;omega
 simp [this]
theorem Gr (n:Nat) (hn:n<=1099511627776):GF Tryz.prog 233 [.v (ii (n:Int))] [] (.v (sv (cn n))) []:=by
 induction n using Nat.strongRecOn with
 | _ n ih =>
 unfold cn;refine cM Tryz.func233 Tryz.ntmps233 ?_
 by_cases h:n < 10
 ·have h':decide ((n:Int) < 10)=true:=by simpa using by omega
  have hw:=xT (48+n) (by omega);rw [Int.natCast_add] at hw;rw [dif_pos h];refine ab ?_;refine bC ?_;exact ar
 ·have h':decide ((n:Int) < 10)=false:=by simpa using by omega
  rw [dif_neg h];have hc:=ih (n / 10) (by omega) (by omega);have hl:=oE (n / 10);have hw:=xT (48+n % 10) (by omega);rw [Int.natCast_add] at hw;refine ab ?_;refine GW.draw (.q 0 (.q 1 (.q 3 (.q 4 (.q 5 (.q 6 (.f 2 (.a 7 (.q 8 (.q 9 (.q 10 .nil)))) 7 (.q 8 (.a 2 (.q 9 (.q 10 .nil))))))))))) (by kernel_rfl) (by kernel_rfl) ?_;refine ai ?_;refine GO.fork ?_ ?_
  ·refine ax [] (hc) ?_;refine dk ?_;refine ai ?_;exact ar
  ·refine dk ?_;refine ai ?_;refine ax [] (hc) ?_;exact ar
end Go.Xg
namespace Go.Xg
open Go.RowKit Go.Xw Go.Proofs
open Go.Xp (Tok Nd T aZ one levels Ar yJ cn oE E S er aE wt eC pX dJ bx)
open Go.Sp
attribute [local irreducible] GW GL GO YG GC GA aQ aR
theorem dW {nd:Nd} {l l':List T} {k v:Int} {s:ae} (h:er (.mk nd l)=.mk ⟨k,0,v,s,[]⟩ l'):nd.kind=k/\nd.n=v/\nd.s=s/\aE l=l':=by
 rw [er] at h
 injection h with h1 h2
 injection h1 with a b c d e
 exact ⟨a,c,d,h2⟩
theorem vU {l:List T} {x:T} (h:aE l=[x]):∃ t,l=[t]/\er t=x:=by
 match l,h with
 | [t],h=>rw [aE,aE] at h;injection h with h1;exact ⟨t,rfl,h1⟩
 | [],h=>rw [aE] at h;cases h
 | t::u::r,h=>rw [aE,aE] at h;injection h with h1 h2;cases h2
theorem BL {l:List T} {x y:T} (h:aE l=[x,y]):∃ t u,l=[t,u]/\er t=x/\er u=y:=by
 match l,h with
 | t::r,h =>
  rw [aE] at h;injection h with h1 h2
  obtain ⟨u,rfl,h3⟩:=vU h2;exact ⟨t,u,rfl,h1,h3⟩
 | [],h=>rw [aE] at h;cases h
theorem Wx {l:List T} {x y z:T} (h:aE l=[x,y,z]):∃ t u w,l=[t,u,w]/\er t=x/\er u=y/\er w=z:=by
 match l,h with
 | t::r,h =>
  rw [aE] at h;injection h with h1 h2
  obtain ⟨u,w,rfl,h3,h4⟩:=BL h2;exact ⟨t,u,w,rfl,h1,h3,h4⟩
 | [],h=>rw [aE] at h;cases h
theorem OY {a:E} (h:a.ok=true) {t:T} (ht:er t=a.tree):mu t.n.kind t.n.s=(a.lv:Int):=by
 obtain ⟨nd,l⟩:=t
 cases a with
 | bin s a b =>
  obtain ⟨h1,_,h2,_⟩:=dW ht;simp only [E.ok,Bool.and_eq_true] at h;have h9:=(Go.Xp.oU h.1.1).1;simp only [T.n,h1,h2,mu,if_pos,E.lv];unfold dJ at h9 |-
  cases hf:levels.findIdx? (fun l=>l.contains s) with
  | none=>rw [hf] at h9;exact absurd h9 (by decide)
  | some i=>rfl
 | num n=>obtain ⟨h1,_⟩:=dW ht;simp only [T.n,h1,mu];rfl
 | name n=>obtain ⟨h1,_⟩:=dW ht;simp only [T.n,h1,mu];rfl
 | at_ s a=>obtain ⟨h1,_⟩:=dW ht;simp only [T.n,h1,mu];rfl
 | call s a=>obtain ⟨h1,_⟩:=dW ht;simp only [T.n,h1,mu];rfl
 | un s a=>obtain ⟨h1,_⟩:=dW ht;simp only [T.n,h1,mu];rfl
theorem qC {a:E} (h:a.ok=true) {t:T} (ht:er t=a.tree):GF Tryz.prog 217 [.agg (cT t)] [] (.v (ii (a.lv:Int))) []:=by
 have:=Js t;rw [OY h ht] at this;exact this
theorem CA (n:Int) (h:0<=n/\n<=2147483647):GF Tryz.prog 218 [.v (ii n)] [] (.v (sv (cn n.toNat))) []:=by
 have hw:=RY n
 have oo:yJ n=n:=by unfold yJ;rw [show n % 4294967296=n by omega,if_neg (by omega)]
 rw [oo] at hw;have hd:=Gr n.toNat (by omega);rw [Int.toNat_of_nonneg h.1] at hd
 have h':decide (n < 0)=false:=by simpa using h.1
 refine ah Tryz.func218 Tryz.ntmps218 ?_;refine U [] (hw) ?_;refine U [] (hd) ?_;exact al
abbrev eB:Nat:=1000000000000
def qQ (a:E):Prop:=∀ (t:T) (k:Nat),a.ok=true->er t=a.tree->wt a.tree<=eB->¬ a.lv < k->GF Tryz.prog 190 [.agg (cT t),.v (ii (k:Int))] [] (.v (sv a.txt)) []
def n9 (a:E):Prop:=∀ (t:T) (k:Nat),a.ok=true->er t=a.tree->wt a.tree<=eB->GF Tryz.prog 190 [.agg (cT t),.v (ii (k:Int))] [] (.v (sv (pX a.lv k a.txt))) []
theorem qQ.p {a:E} (C:qQ a):n9 a:=by
 intro t k ho ht hb;unfold pX
 by_cases h:a.lv < k
 ·rw [if_pos h]
  have h':decide ((a.lv:Int) < (k:Int))=true:=by simpa using h
  have hl:=(E.len a ho).1;have h0:=C t 0 ho ht hb (by omega);have Hx:=hb;unfold eB at Hx;generalize a.txt=x at *;refine ah Tryz.func190 Tryz.ntmps190 ?_;refine U [] (qC ho ht) ?_;refine U [] (h0) ?_;exact al
 ·rw [if_neg h];exact C t k ho ht hb h
theorem Mc (n:Int):qQ (.num n):=by
 intro t k ho ht hb h
 have h':decide (((E.num n).lv:Int) < (k:Int))=false:=by simpa using h
 have hg:=qC ho ht;obtain ⟨⟨kk,aa,vv,ss,ks⟩,l⟩:=t;obtain ⟨h1,h2,h3,hl⟩:=dW ht;simp only at h1 h2 h3;subst h1 h2 h3;simp only [E.ok,Bool.and_eq_true] at ho;have hn:=CA vv ⟨of_decide_eq_true ho.1,of_decide_eq_true ho.2⟩;rw [E.txt];simp only [cT,T.n,T.kids] at hg |-;refine ah Tryz.func190 Tryz.ntmps190 ?_;refine U [] (hg) ?_;refine U [] (hn) ?_;exact al
theorem Jy (s:ae):qQ (.name s):=by
 intro t k ho ht hb h
 have h':decide (((E.name s).lv:Int) < (k:Int))=false:=by simpa using h
 have hg:=qC ho ht;obtain ⟨⟨kk,aa,vv,ss,ks⟩,l⟩:=t;obtain ⟨h1,h2,h3,hl⟩:=dW ht;simp only at h1 h2 h3;subst h1 h2 h3;rw [E.txt];simp only [cT,T.n,T.kids] at hg |-;refine ah Tryz.func190 Tryz.ntmps190 ?_;refine U [] (hg) ?_;exact al
theorem Ok (s:ae) (a:E) (C:n9 a):qQ (.at_ s a):=by
 intro t k ho ht hb h
 have h':decide (((E.at_ s a).lv:Int) < (k:Int))=false:=by simpa using h
 have hg:=qC ho ht;obtain ⟨⟨kk,aa,vv,ss,ks⟩,l⟩:=t;obtain ⟨h1,h2,h3,hl⟩:=dW ht;simp only at h1 h2 h3;subst h1 h2 h3;obtain ⟨x,rfl,hx⟩:=vU hl;simp only [E.ok,Bool.and_eq_true] at ho;rw [E.tree,wt] at hb;simp only [eC,eB] at hb;have hc:=C x 0 ho.2 hx (by unfold eB;omega);unfold pX at hc;rw [if_neg (by omega)] at hc;have hle:=(E.len a ho.2).1;have hr:(aH [x])[0]?=some (cT x):=cz rfl;rw [E.txt];generalize a.txt=y at *;simp only [cT,T.n,T.kids] at hg |-;refine ah Tryz.func190 Tryz.ntmps190 ?_;refine U [] (hg) ?_;refine GW.draw (.q 0 (.q 1 (.q 2 (.q 3 (.q 4 (.q 5 (.q 6 (.q 7 (.a 8 (.q 9 (.q 10 (.q 11 .nil)))))))))))) (by kernel_rfl) (by kernel_rfl) ?_;refine ai ?_;refine ax [] (hc) ?_;exact ar
theorem Ol (s:ae) (a:E) (C:n9 a):qQ (.un s a):=by
 intro t k ho ht hb h
 have h':decide (((E.un s a).lv:Int) < (k:Int))=false:=by simpa using h
 have hg:=qC ho ht;obtain ⟨⟨kk,aa,vv,ss,ks⟩,l⟩:=t;obtain ⟨h1,h2,h3,hl⟩:=dW ht;simp only at h1 h2 h3;subst h1 h2 h3;obtain ⟨x,rfl,hx⟩:=vU hl;simp only [E.ok,Bool.and_eq_true] at ho;rw [E.tree,wt] at hb;simp only [eC,eB] at hb;have hc:=C x 9 ho.2 hx (by unfold eB;omega);have hle:=(E.len a ho.2).1;have zP:=Go.Xp.rV a.lv 9 a.txt;have hr:(aH [x])[0]?=some (cT x):=cz rfl;rw [E.txt];generalize pX a.lv 9 a.txt=y at *;simp only [cT,T.n,T.kids] at hg |-;refine ah Tryz.func190 Tryz.ntmps190 ?_;refine U [] (hg) ?_;refine GW.draw (.q 0 (.q 1 (.q 2 (.q 3 (.q 4 (.q 5 (.q 6 (.q 7 (.a 8 (.q 9 (.a 10 (.q 11 (.q 12 .nil))))))))))))) (by kernel_rfl) (by kernel_rfl) ?_;refine ai ?_;refine ax [] (jv) ?_;refine ax [] (hc) ?_;exact ar
theorem Mb (s:ae) (a b:E) (Ca:n9 a) (Cb:n9 b):qQ (.bin s a b):=by
 intro t k ho ht hb h
 have h':decide (((E.bin s a b).lv:Int) < (k:Int))=false:=by simpa using h
 have hg:=qC ho ht;obtain ⟨⟨kk,aa,vv,ss,ks⟩,l⟩:=t;obtain ⟨h1,h2,h3,hl⟩:=dW ht;simp only at h1 h2 h3;subst h1 h2 h3;obtain ⟨x,y,rfl,hx,hy⟩:=BL hl;simp only [E.ok,Bool.and_eq_true] at ho;rw [E.tree,wt] at hb;simp only [eC,eB] at hb;have SH:=Ca x (dJ ss) ho.1.2 hx (by unfold eB;omega);have y5:=Cb y (dJ ss+1) ho.2 hy (by unfold eB;omega);have HA:=(Go.Xp.oU ho.1.1).1;have hle:=(E.len a ho.1.2).1;have zP:=Go.Xp.rV a.lv (dJ ss) a.txt;have W6:=(E.len b ho.2).1;have ZQ:=Go.Xp.rV b.lv (dJ ss+1) b.txt;have hr:(aH [x,y])[0]?=some (cT x):=cz rfl;have dj:(aH [x,y])[1]?=some (cT y):=cz rfl;rw [E.txt];simp only [E.lv] at hg h';generalize pX a.lv (dJ ss) a.txt=u at *;generalize pX b.lv (dJ ss+1) b.txt=w at *;simp only [cT,T.n,T.kids] at hg |-;refine ah Tryz.func190 Tryz.ntmps190 ?_;refine U [] (hg) ?_;refine U [] (hg) ?_;refine GW.draw (.q 0 (.q 1 (.q 2 (.q 3 (.q 4 (.q 7 (.q 8 (.q 9 (.q 12 (.q 13 (.q 14 (.q 15 (.q 16 (.q 17 (.a 5 (.q 6 (.q 10 (.q 11 (.a 18 (.q 19 (.q 20 .nil))))))))))))))))))))) (by kernel_rfl) (by kernel_rfl) ?_;refine ai ?_;refine ax [] (SH) ?_;refine ax [] (y5) ?_;exact ar
end Go.Xg
namespace Go.Xg
open Go.RowKit Go.Xw Go.Proofs
open Go.Xp (Tok Nd T aZ one levels Ar cn E S er aE wt eC pX dJ bx A5 wb)
open Go.Sp
attribute [local irreducible] GW GL GO YG GC GA aQ aR
def IL (b:Bool) (a:E):Prop:=∀ t,er t=a.tree->GF Tryz.prog 152 [.agg (cT t),.v (.bool b)] [] (.v (sv (a.out b))) []
theorem KO:∀ {ts:List T} {es:List E} (h:aE ts=E.trees es),ts.length=es.length/\∀ (k:Nat) t a,ts[k]?=some t->es[k]?=some a->er t=a.tree
 | [],[],_=>⟨rfl,fun k t a h=>by simp at h⟩
 | [],a::l,h=>by rw [aE,E.trees] at h;cases h
 | t::r,[],h=>by rw [aE,E.trees] at h;cases h
 | t::r,a::l,h=>by
  rw [aE,E.trees] at h
  injection h with h1 h2
  obtain ⟨h3,h4⟩:=KO h2;refine ⟨by simp [h3],fun k t' a' ht ha=>?_⟩
  cases k with
  | zero=>cases ht;cases ha;exact h1
  | succ k=>exact h4 k t' a' (by simpa using ht) (by simpa using ha)
theorem C4 (b:Bool) (es:List E) (C:∀ a∈es,IL b a) (ts:List T) (sL:aE ts=E.trees es) (hb:(bx (es.map (E.out b))).length<=eB) (hn:es.length<=eB) :
  GF Tryz.prog 219 [.sl 6 (aH ts),.v (.bool b)] [] (.v (sv (bx (es.map (E.out b))))) []:=by
 obtain ⟨hlen,wP⟩:=KO sL;unfold eB at hb hn;refine ah Tryz.func219 Tryz.ntmps219 ?_;refine GW.range (aH ts).length (fun k fr Γ=>∃ y,fr=[.any,.v (.bool b),.any,.any,.any,.v (sv y),.any,.any,.sl 6 (aH ts),.v (ii ((aH ts).length:Int)),.v (ii (k:Nat)),.any,.any,.any,.any,.any,.any,.any,.any,.any,.any,.any,.any,.any,.any,.any]/\Γ=[]/\y=bx ((es.map (E.out b)).take k)) ?_ (by rw [aL];omega) ?_ ?_ ?_
 ·exact ⟨_,_,Wk.av aj,[],rfl,rfl,by simp [bx]⟩
 ·rintro k _ _ ⟨y,rfl,rfl,_⟩;exact ⟨rfl,rfl,rfl⟩
 ·rintro k _ _ hk ⟨y,rfl,rfl,hy⟩
  have hk:k < es.length:=by rw [aL,hlen] at hk;exact hk
  have wT:k < ts.length:=by omega
  have hx:es[k]?=some es[k]:=by simp [hk]
  have ht:ts[k]?=some ts[k]:=by simp [wT]
  have he:=wP k _ _ ht hx;have hr:=cz ht;have hc:=C _ (mem_of_getElem? hx) _ he;have xy:=wb (es.map (E.out b)) (k+1);have W0:=wb (es.map (E.out b)) k
  have jR:(es.map (E.out b)).take (k+1)=(es.map (E.out b)).take k++[es[k].out b]:=by
   rw [take_add_one,getElem?_map,hx];rfl
  rw [jR] at xy;generalize ts[k]=t at *;generalize es[k]=a at *;generalize a.out b=x at *
  by_cases h0:k=0
  ·subst h0
   have sD:decide ((0:Int) < ((0:Nat):Int))=false:=by decide
   have hj:bx ((es.map (E.out b)).take 0++[x])=[]++x:=by simp [bx]
   have PL:bx ((es.map (E.out b)).take 0)=[]:=by simp [bx]
   rw [PL] at hy;subst hy;rw [hj] at xy
   have xy:x.length<=(bx (es.map (E.out b))).length:=by simpa using xy
   refine ab ?_;refine U [] (hc) ?_;exact ⟨rfl,rfl,_,_,(Wk.cut (n:=0) (Nat.le_of_ble_eq_true rfl) rfl).trans (Wk.av aj),_,rfl,rfl,by rw [jR,hj]⟩
  ·have sD:decide ((0:Int) < (k:Int))=true:=by simpa using by omega
   have bN:(es.map (E.out b)).take k≠[]:=by
    intro h;rw [List.take_eq_nil_iff] at h
    rcases h with h | h
    ·exact h0 h
    ·rw [List.map_eq_nil_iff] at h;subst h;simp at hk
   have hj:=A5 bN x;rw [hj] at xy;rw [<-hy] at xy hj W0;simp only [length_append,length_cons,length_nil] at xy;refine ab ?_;refine U [] (hc) ?_;exact ⟨rfl,rfl,_,_,(Wk.cut (n:=0) (Nat.le_of_ble_eq_true rfl) rfl).trans (Wk.av aj),_,rfl,rfl,by rw [jR,hj]⟩
 ·rintro _ _ ⟨y,rfl,rfl,hy⟩;have:(es.map (E.out b)).take (aH ts).length=es.map (E.out b):=take_of_length_le (by rw [aL,hlen];simp);rw [this] at hy;subst hy;exact ar
theorem n9.out {a:E} (C:n9 a) (ho:a.ok=true) (hb:wt a.tree<=eB):IL true a:=by
 intro t ht;have h0:=C t 0 ho ht hb;unfold pX at h0;rw [if_neg (by omega)] at h0;show GF _ _ _ _ (.v (sv a.txt)) _;refine ah Tryz.func152 Tryz.ntmps152 ?_;refine U [] (h0) ?_;exact al
theorem Cv:∀ l:List E,l.length<=eC (E.trees l)
 | []=>Nat.zero_le _
 | a::l=>by
  have:=Cv l;rw [E.trees,eC,length_cons]
  have:1<=wt a.tree:=by cases a <;> (rw [E.tree,wt];omega)
  omega
theorem Cw:∀ {l:List E} {a:E},a∈l->wt a.tree<=eC (E.trees l)
 | [],_,h=>by cases h
 | b::l,a,h=>by
  rw [E.trees,eC]
  rcases List.mem_cons.1 h with rfl | h
  ·omega
  ·have:=Cw h;omega
theorem Cc:∀ {l:List E} {a:E},E.cI l=true->a∈l->a.ok=true
 | [],_,_,h=>by cases h
 | b::l,a,ho,h=>by
  simp only [E.cI,Bool.and_eq_true] at ho
  rcases List.mem_cons.1 h with rfl | h
  ·exact ho.1
  ·exact Cc ho.2 h
theorem Jx (s:ae) (es:List E) (C:∀ a∈es,n9 a):qQ (.call s es):=by
 intro t k ho ht hb h
 have h':decide (((E.call s es).lv:Int) < (k:Int))=false:=by simpa using h
 have hg:=qC ho ht;obtain ⟨⟨kk,aa,vv,ss,ks⟩,l⟩:=t;obtain ⟨h1,h2,h3,hl⟩:=dW ht;simp only at h1 h2 h3;subst h1 h2 h3;simp only [E.ok,Bool.and_eq_true] at ho;rw [E.tree,wt] at hb;have hle:=(E.lens es ho.2).1;have hn:=Cv es
 have Ez:E.cE es=es.map (E.out true):=by rw [E.O5];rfl
 have hj:=C4 true es (fun a ha=>(C a ha).out (Cc ho.2 ha) (by have:=Cw ha;omega)) l hl (by rw [<-Ez];omega) (by omega);rw [<-Ez] at hj;unfold eB at hb;simp only at hb;rw [E.txt];generalize bx (E.cE es)=y at *;simp only [cT,T.n,T.kids] at hg |-;refine ah Tryz.func190 Tryz.ntmps190 ?_;refine U [] (hg) ?_;refine GW.draw (.q 0 (.q 1 (.q 2 (.q 3 (.q 4 (.q 5 (.a 6 (.q 7 (.q 8 (.q 9 .nil)))))))))) (by kernel_rfl) (by kernel_rfl) ?_;refine ai ?_;refine ax [] (hj) ?_;exact ar
mutual
theorem vg:∀ a:E,n9 a
 | .num n=>(Mc n).p
 | .name s=>(Jy s).p
 | .at_ s a=>(Ok s a (vg a)).p
 | .call s l=>(Jx s l (HS l)).p
 | .un s a=>(Ol s a (vg a)).p
 | .bin s a b=>(Mb s a b (vg a) (vg b)).p
theorem HS:∀ l:List E,∀ a∈l,n9 a
 | []=>fun a h=>by cases h
 | b::l=>fun a h=>by
  rcases List.mem_cons.1 h with h | h
  ·rw [h];exact vg b
  ·exact HS l a h
end
def lM (a:E):Prop:=∀ (t:T),a.ok=true->er t=a.tree->wt a.tree<=eB->GF Tryz.prog 191 [.agg (cT t)] [] (.v (sv a.full)) []
theorem lM.out {a:E} (C:lM a) (ho:a.ok=true) (hb:wt a.tree<=eB):IL false a:=by
 intro t ht;have h0:=C t ho ht hb;show GF _ _ _ _ (.v (sv a.full)) _;refine ah Tryz.func152 Tryz.ntmps152 ?_;refine U [] (h0) ?_;exact al
theorem NQ (n:Int):lM (.num n):=by
 intro t ho ht hb;obtain ⟨⟨kk,aa,vv,ss,ks⟩,l⟩:=t;obtain ⟨h1,h2,h3,hl⟩:=dW ht;simp only at h1 h2 h3;subst h1 h2 h3;simp only [E.ok,Bool.and_eq_true] at ho;have hn:=CA vv ⟨of_decide_eq_true ho.1,of_decide_eq_true ho.2⟩;rw [E.full];simp only [cT,T.n,T.kids];refine ah Tryz.func191 Tryz.ntmps191 ?_;refine U [] (hn) ?_;exact al
theorem Lf (s:ae):lM (.name s):=by
 intro t ho ht hb;obtain ⟨⟨kk,aa,vv,ss,ks⟩,l⟩:=t;obtain ⟨h1,h2,h3,hl⟩:=dW ht;simp only at h1 h2 h3;subst h1 h2 h3;rw [E.full];simp only [cT,T.n,T.kids];refine ah Tryz.func191 Tryz.ntmps191 ?_;exact al
theorem QQ (s:ae) (a:E) (C:lM a):lM (.at_ s a):=by
 intro t ho ht hb;obtain ⟨⟨kk,aa,vv,ss,ks⟩,l⟩:=t;obtain ⟨h1,h2,h3,hl⟩:=dW ht;simp only at h1 h2 h3;subst h1 h2 h3;obtain ⟨x,rfl,hx⟩:=vU hl;simp only [E.ok,Bool.and_eq_true] at ho;rw [E.tree,wt] at hb;simp only [eC,eB] at hb;have hc:=C x ho.2 hx (by unfold eB;omega);have hle:=(E.len a ho.2).2;have hr:(aH [x])[0]?=some (cT x):=cz rfl;rw [E.full];generalize a.full=y at *;simp only [cT,T.n,T.kids] at |-;refine ah Tryz.func191 Tryz.ntmps191 ?_;refine GW.draw (.q 0 (.q 1 (.q 2 (.q 3 (.q 4 (.q 5 (.q 6 (.q 7 (.a 8 (.q 9 (.q 10 (.q 11 .nil)))))))))))) (by kernel_rfl) (by kernel_rfl) ?_;refine ai ?_;refine ax [] (hc) ?_;exact ar
theorem Le (s:ae) (es:List E) (C:∀ a∈es,lM a):lM (.call s es):=by
 intro t ho ht hb;obtain ⟨⟨kk,aa,vv,ss,ks⟩,l⟩:=t;obtain ⟨h1,h2,h3,hl⟩:=dW ht;simp only at h1 h2 h3;subst h1 h2 h3;simp only [E.ok,Bool.and_eq_true] at ho;rw [E.tree,wt] at hb;have hle:=(E.lens es ho.2).2;have hn:=Cv es
 have Ez:E.rQ es=es.map (E.out false):=by rw [E.Lg];rfl
 have hj:=C4 false es (fun a ha=>(C a ha).out (Cc ho.2 ha) (by have:=Cw ha;omega)) l hl (by rw [<-Ez];omega) (by omega);rw [<-Ez] at hj;unfold eB at hb;simp only at hb;rw [E.full];generalize bx (E.rQ es)=y at *;simp only [cT,T.n,T.kids] at |-;refine ah Tryz.func191 Tryz.ntmps191 ?_;refine GW.draw (.q 0 (.q 1 (.q 2 (.q 3 (.q 4 (.q 5 (.a 6 (.q 7 (.q 8 (.q 9 .nil)))))))))) (by kernel_rfl) (by kernel_rfl) ?_;refine ai ?_;refine ax [] (hj) ?_;exact ar
theorem QR (s:ae) (a:E) (C:lM a):lM (.un s a):=by
 intro t ho ht hb;obtain ⟨⟨kk,aa,vv,ss,ks⟩,l⟩:=t;obtain ⟨h1,h2,h3,hl⟩:=dW ht;simp only at h1 h2 h3;subst h1 h2 h3;obtain ⟨x,rfl,hx⟩:=vU hl;simp only [E.ok,Bool.and_eq_true] at ho;rw [E.tree,wt] at hb;simp only [eC,eB] at hb;have hc:=C x ho.2 hx (by unfold eB;omega);have hle:=(E.len a ho.2).2;have hr:(aH [x])[0]?=some (cT x):=cz rfl;rw [E.full];generalize a.full=y at *;simp only [cT,T.n,T.kids] at |-;refine ah Tryz.func191 Tryz.ntmps191 ?_;refine GW.draw (.q 0 (.q 1 (.q 2 (.q 3 (.q 4 (.q 5 (.q 6 (.q 7 (.a 8 (.q 9 (.q 10 (.q 11 .nil)))))))))))) (by kernel_rfl) (by kernel_rfl) ?_;refine ai ?_;refine ax [] (hc) ?_;exact ar
theorem NP (s:ae) (a b:E) (Ca:lM a) (Cb:lM b):lM (.bin s a b):=by
 intro t ho ht hb;obtain ⟨⟨kk,aa,vv,ss,ks⟩,l⟩:=t;obtain ⟨h1,h2,h3,hl⟩:=dW ht;simp only at h1 h2 h3;subst h1 h2 h3;obtain ⟨x,y,rfl,hx,hy⟩:=BL hl;simp only [E.ok,Bool.and_eq_true] at ho;rw [E.tree,wt] at hb;simp only [eC,eB] at hb;have SH:=Ca x ho.1.2 hx (by unfold eB;omega);have y5:=Cb y ho.2 hy (by unfold eB;omega);have hle:=(E.len a ho.1.2).2;have W6:=(E.len b ho.2).2;have hr:(aH [x,y])[0]?=some (cT x):=cz rfl;have dj:(aH [x,y])[1]?=some (cT y):=cz rfl;rw [E.full];generalize a.full=u at *;generalize b.full=w at *;simp only [cT,T.n,T.kids] at |-;refine ah Tryz.func191 Tryz.ntmps191 ?_;refine GW.draw (.q 0 (.q 1 (.q 2 (.q 3 (.q 7 (.q 8 (.q 9 (.q 12 (.q 13 (.q 14 (.q 15 (.a 4 (.q 5 (.q 6 (.q 10 (.q 11 (.a 16 (.q 17 (.q 18 (.q 19 .nil)))))))))))))))))))) (by kernel_rfl) (by kernel_rfl) ?_;refine ai ?_;refine ax [] (SH) ?_;refine ax [] (y5) ?_;exact ar
mutual
theorem yn:∀ a:E,lM a
 | .num n=>NQ n
 | .name s=>Lf s
 | .at_ s a=>QQ s a (yn a)
 | .call s l=>Le s l (Ld l)
 | .un s a=>QR s a (yn a)
 | .bin s a b=>NP s a b (yn a) (yn b)
theorem Ld:∀ l:List E,∀ a∈l,lM a
 | []=>fun a h=>by cases h
 | b::l=>fun a h=>by
  rcases List.mem_cons.1 h with h | h
  ·rw [h];exact yn b
  ·exact Ld l a h
end
theorem pF (b:Bool) {a:E} (ho:a.ok=true) (hb:wt a.tree<=eB):IL b a:=by
 cases b with
 | true=>exact (vg a).out ho hb
 | false=>exact (yn a).out ho hb
theorem iR (b:Bool) (a:E) (ho:a.ok=true):(a.out b).length+4<=wt a.tree:=by
 have:=E.len a ho
 cases b with
 | true=>exact this.1
 | false=>exact this.2
end Go.Xg
namespace Go.Xg
open Go.RowKit Go.Xw Go.Proofs
open Go.Xp (Tok Nd T aZ one levels Ar cn E S er aE wt eC bB eQ)
open Go.Sp
attribute [local irreducible] GW GL GO YG GC GA aQ aR
theorem Iv (x:E->Go.Xp.ae):∀ (l:List S) (acc:Go.Xp.ae),acc.length<=(S.cE x acc l).length
 | [],acc=>by rw [S.cE];omega
 | a::l,acc=>by
  rw [S.cE];have:=Iv x l (acc++a.txt x++[32]);simp only [length_append,length_cons,length_nil] at this;omega
def mR (b:Bool) (s:S):Prop:=∀ t,s.ok=true->er t=s.tree->wt s.tree<=eB->GF Tryz.prog 129 [.agg (cT t),.v (.bool b)] [] (.v (sv (s.txt (E.out b)))) []
def uH (b:Bool) (l:List S):Prop:=∀ t,S.cI l=true->er t=bB l->wt (bB l)<=eB->GF Tryz.prog 129 [.agg (cT t),.v (.bool b)] [] (.v (sv (eQ (E.out b) l))) []
theorem Ig:∀ {ts:List T} {es:List S} (h:aE ts=S.trees es),ts.length=es.length/\∀ (k:Nat) t a,ts[k]?=some t->es[k]?=some a->er t=a.tree
 | [],[],_=>⟨rfl,fun k t a h=>by simp at h⟩
 | [],a::l,h=>by rw [aE,S.trees] at h;cases h
 | t::r,[],h=>by rw [aE,S.trees] at h;cases h
 | t::r,a::l,h=>by
  rw [aE,S.trees] at h
  injection h with h1 h2
  obtain ⟨h3,h4⟩:=Ig h2;refine ⟨by simp [h3],fun k t' a' ht ha=>?_⟩
  cases k with
  | zero=>cases ht;cases ha;exact h1
  | succ k=>exact h4 k t' a' (by simpa using ht) (by simpa using ha)
theorem FN:∀ {l:List S} {a:S},a∈l->wt a.tree<=eC (S.trees l)
 | [],_,h=>by cases h
 | b::l,a,h=>by
  rw [S.trees,eC]
  rcases List.mem_cons.1 h with rfl | h
  ·omega
  ·have:=FN h;omega
theorem FM:∀ l:List S,l.length<=eC (S.trees l)
 | []=>Nat.zero_le _
 | a::l=>by
  have:=FM l;rw [S.trees,eC,length_cons]
  have:1<=wt a.tree:=by cases a <;> (rw [S.tree,wt];omega)
  omega
theorem FG:∀ {l:List S} {a:S},S.cI l=true->a∈l->a.ok=true
 | [],_,_,h=>by cases h
 | b::l,a,ho,h=>by
  simp only [S.cI,Bool.and_eq_true] at ho
  rcases List.mem_cons.1 h with rfl | h
  ·exact ho.1
  ·exact FG ho.2 h
theorem Na (b:Bool) (s:Go.Xp.ae) (a:E):mR b (.var s a):=by
 intro t ho ht hb;obtain ⟨⟨kk,aa,vv,ss,ks⟩,l⟩:=t;obtain ⟨h1,h2,h3,hl⟩:=dW ht;simp only at h1 h2 h3;subst h1 h2 h3;obtain ⟨x0,rfl,nT⟩:=vU hl;simp only [S.ok,Bool.and_eq_true] at ho;rw [S.tree,wt] at hb;simp only [eC,eB] at hb;have py:=pF b (a:=a) ho.2 (by unfold eB;omega) x0 nT;have xz:=iR b a ho.2;have ri:(aH [x0])[0]?=some (cT x0):=cz rfl;rw [S.txt];generalize a.out b=y0 at *;simp only [cT,T.n,T.kids];refine ah Tryz.func129 Tryz.ntmps129 ?_;refine GW.draw (.q 0 (.q 1 (.q 2 (.q 3 (.q 4 (.q 5 (.q 6 (.q 7 (.q 8 (.q 9 (.a 10 (.q 11 (.q 12 (.q 13 .nil)))))))))))))) (by kernel_rfl) (by kernel_rfl) ?_;refine ai ?_;refine ax [] (py) ?_;exact ar
theorem M9 (b:Bool) (s:Go.Xp.ae) (a:E):mR b (.set s a):=by
 intro t ho ht hb;obtain ⟨⟨kk,aa,vv,ss,ks⟩,l⟩:=t;obtain ⟨h1,h2,h3,hl⟩:=dW ht;simp only at h1 h2 h3;subst h1 h2 h3;obtain ⟨x0,rfl,nT⟩:=vU hl;simp only [S.ok,Bool.and_eq_true] at ho;rw [S.tree,wt] at hb;simp only [eC,eB] at hb;have py:=pF b (a:=a) ho.2 (by unfold eB;omega) x0 nT;have xz:=iR b a ho.2;have ri:(aH [x0])[0]?=some (cT x0):=cz rfl;rw [S.txt];generalize a.out b=y0 at *;simp only [cT,T.n,T.kids];refine ah Tryz.func129 Tryz.ntmps129 ?_;refine GW.draw (.q 0 (.q 1 (.q 2 (.q 3 (.q 4 (.q 5 (.q 6 (.q 7 (.q 8 (.a 9 (.q 10 (.q 11 (.q 12 .nil))))))))))))) (by kernel_rfl) (by kernel_rfl) ?_;refine ai ?_;refine ax [] (py) ?_;exact ar
theorem M7 (b:Bool) (s:Go.Xp.ae) (a:E) (c:E):mR b (.put s a c):=by
 intro t ho ht hb;obtain ⟨⟨kk,aa,vv,ss,ks⟩,l⟩:=t;obtain ⟨h1,h2,h3,hl⟩:=dW ht;simp only at h1 h2 h3;subst h1 h2 h3;obtain ⟨x0,x1,rfl,nT,lq⟩:=BL hl;simp only [S.ok,Bool.and_eq_true] at ho;rw [S.tree,wt] at hb;simp only [eC,eB] at hb;have py:=pF b (a:=a) ho.2.1 (by unfold eB;omega) x0 nT;have xz:=iR b a ho.2.1;have ri:(aH [x0,x1])[0]?=some (cT x0):=cz rfl;have rb:=pF b (a:=c) ho.2.2 (by unfold eB;omega) x1 lq;have fb:=iR b c ho.2.2;have gD:(aH [x0,x1])[1]?=some (cT x1):=cz rfl;rw [S.txt];generalize a.out b=y0 at *;generalize c.out b=y1 at *;simp only [cT,T.n,T.kids];refine ah Tryz.func129 Tryz.ntmps129 ?_;refine GW.draw (.q 0 (.q 1 (.q 2 (.q 3 (.q 4 (.q 5 (.q 6 (.q 7 (.q 8 (.q 12 (.q 13 (.q 14 (.q 15 (.q 16 (.a 9 (.q 10 (.q 11 (.a 17 (.q 18 (.q 19 (.q 20 .nil))))))))))))))))))))) (by kernel_rfl) (by kernel_rfl) ?_;refine ai ?_;refine ax [] (py) ?_;refine ax [] (rb) ?_;exact ar
theorem M5 (b:Bool) (c:E) (p:List S) (Cp:uH b p):mR b (.if1 c p):=by
 intro t ho ht hb;obtain ⟨⟨kk,aa,vv,ss,ks⟩,l⟩:=t;obtain ⟨h1,h2,h3,hl⟩:=dW ht;simp only at h1 h2 h3;subst h1 h2 h3;obtain ⟨x0,x1,rfl,nT,lq⟩:=BL hl;simp only [S.ok,Bool.and_eq_true] at ho;rw [S.tree,wt] at hb;simp only [eC,eB] at hb;have py:=pF b (a:=c) ho.1 (by unfold eB;omega) x0 nT;have xz:=iR b c ho.1;have ri:(aH [x0,x1])[0]?=some (cT x0):=cz rfl;have rb:=Cp x1 ho.2 lq (by unfold eB bB;omega);have fb:=Go.Xp.rU (E.out b) (iR b) ho.2;rw [bB] at fb;have gD:(aH [x0,x1])[1]?=some (cT x1):=cz rfl;rw [S.txt];generalize c.out b=y0 at *
 change GF _ _ _ _ (.v (sv _)) _ at rb
 unfold eQ at rb fb;generalize S.cE (E.out b) [123,32] p++[125]=y1 at *;simp only [cT,T.n,T.kids];refine ah Tryz.func129 Tryz.ntmps129 ?_;refine GW.draw (.q 0 (.q 1 (.q 2 (.q 3 (.q 4 (.q 8 (.q 9 (.q 10 (.q 11 (.q 12 (.a 5 (.q 6 (.q 7 (.a 13 (.q 14 (.q 15 .nil)))))))))))))))) (by kernel_rfl) (by kernel_rfl) ?_;refine ai ?_;refine ax [] (py) ?_;refine ax [] (rb) ?_;exact ar
theorem M6 (b:Bool) (c:E) (p:List S) (q:List S) (Cp:uH b p) (Cq:uH b q):mR b (.if2 c p q):=by
 intro t ho ht hb;obtain ⟨⟨kk,aa,vv,ss,ks⟩,l⟩:=t;obtain ⟨h1,h2,h3,hl⟩:=dW ht;simp only at h1 h2 h3;subst h1 h2 h3;obtain ⟨x0,x1,x2,rfl,nT,lq,HJ⟩:=Wx hl;simp only [S.ok,Bool.and_eq_true] at ho;rw [S.tree,wt] at hb;simp only [eC,eB] at hb;have py:=pF b (a:=c) ho.1 (by unfold eB;omega) x0 nT;have xz:=iR b c ho.1;have ri:(aH [x0,x1,x2])[0]?=some (cT x0):=cz rfl;have rb:=Cp x1 ho.2.1 lq (by unfold eB bB;omega);have fb:=Go.Xp.rU (E.out b) (iR b) ho.2.1;rw [bB] at fb;have gD:(aH [x0,x1,x2])[1]?=some (cT x1):=cz rfl;have jB:=Cq x2 ho.2.2 HJ (by unfold eB bB;omega);have ko:=Go.Xp.rU (E.out b) (iR b) ho.2.2;rw [bB] at ko;have dj:(aH [x0,x1,x2])[2]?=some (cT x2):=cz rfl;rw [S.txt];generalize c.out b=y0 at *
 change GF _ _ _ _ (.v (sv _)) _ at rb
 unfold eQ at rb fb;generalize S.cE (E.out b) [123,32] p++[125]=y1 at *
 change GF _ _ _ _ (.v (sv _)) _ at jB
 unfold eQ at jB ko;generalize S.cE (E.out b) [123,32] q++[125]=y2 at *;simp only [cT,T.n,T.kids];refine ah Tryz.func129 Tryz.ntmps129 ?_;refine GW.draw (.q 0 (.q 1 (.q 2 (.q 3 (.q 4 (.q 8 (.q 9 (.q 10 (.q 11 (.q 12 (.a 5 (.q 6 (.q 7 (.a 13 (.q 14 (.q 15 .nil)))))))))))))))) (by kernel_rfl) (by kernel_rfl) ?_;refine ai ?_;refine ax [] (py) ?_;refine ax [] (rb) ?_;refine ab ?_;refine U [] (jB) ?_;exact al
theorem GS (b:Bool) (c:E) (p:List S) (Cp:uH b p):mR b (.while_ c p):=by
 intro t ho ht hb;obtain ⟨⟨kk,aa,vv,ss,ks⟩,l⟩:=t;obtain ⟨h1,h2,h3,hl⟩:=dW ht;simp only at h1 h2 h3;subst h1 h2 h3;obtain ⟨x0,x1,rfl,nT,lq⟩:=BL hl;simp only [S.ok,Bool.and_eq_true] at ho;rw [S.tree,wt] at hb;simp only [eC,eB] at hb;have py:=pF b (a:=c) ho.1 (by unfold eB;omega) x0 nT;have xz:=iR b c ho.1;have ri:(aH [x0,x1])[0]?=some (cT x0):=cz rfl;have rb:=Cp x1 ho.2 lq (by unfold eB bB;omega);have fb:=Go.Xp.rU (E.out b) (iR b) ho.2;rw [bB] at fb;have gD:(aH [x0,x1])[1]?=some (cT x1):=cz rfl;rw [S.txt];generalize c.out b=y0 at *
 change GF _ _ _ _ (.v (sv _)) _ at rb
 unfold eQ at rb fb;generalize S.cE (E.out b) [123,32] p++[125]=y1 at *;simp only [cT,T.n,T.kids];refine ah Tryz.func129 Tryz.ntmps129 ?_;refine GW.draw (.q 0 (.q 1 (.q 2 (.q 3 (.q 4 (.q 8 (.q 9 (.q 10 (.q 11 (.q 12 (.a 5 (.q 6 (.q 7 (.a 13 (.q 14 (.q 15 .nil)))))))))))))))) (by kernel_rfl) (by kernel_rfl) ?_;refine ai ?_;refine ax [] (py) ?_;refine ax [] (rb) ?_;exact ar
theorem M8 (b:Bool) (a:E):mR b (.ret a):=by
 intro t ho ht hb;obtain ⟨⟨kk,aa,vv,ss,ks⟩,l⟩:=t;obtain ⟨h1,h2,h3,hl⟩:=dW ht;simp only at h1 h2 h3;subst h1 h2 h3;obtain ⟨x0,rfl,nT⟩:=vU hl;simp only [S.ok] at ho;rw [S.tree,wt] at hb;simp only [eC,eB] at hb;have py:=pF b (a:=a) ho (by unfold eB;omega) x0 nT;have xz:=iR b a ho;have ri:(aH [x0])[0]?=some (cT x0):=cz rfl;rw [S.txt];generalize a.out b=y0 at *;simp only [cT,T.n,T.kids];refine ah Tryz.func129 Tryz.ntmps129 ?_;refine U [] (py) ?_;exact al
theorem Pk (b:Bool) (a:E):mR b (.do_ a):=by
 intro t ho ht hb;obtain ⟨⟨kk,aa,vv,ss,ks⟩,l⟩:=t;obtain ⟨h1,h2,h3,hl⟩:=dW ht;simp only at h1 h2 h3;subst h1 h2 h3;obtain ⟨x0,rfl,nT⟩:=vU hl;simp only [S.ok] at ho;rw [S.tree,wt] at hb;simp only [eC,eB] at hb;have py:=pF b (a:=a) ho (by unfold eB;omega) x0 nT;have xz:=iR b a ho;have ri:(aH [x0])[0]?=some (cT x0):=cz rfl;rw [S.txt];generalize a.out b=y0 at *;simp only [cT,T.n,T.kids];refine ah Tryz.func129 Tryz.ntmps129 ?_;refine U [] (py) ?_;exact al
theorem rB (b:Bool) (es:List S) (C:∀ a∈es,mR b a):uH b es:=by
 intro t ho ht hb;obtain ⟨⟨kk,aa,vv,ss,ks⟩,l⟩:=t;obtain ⟨h1,h2,h3,hl⟩:=dW ht;simp only at h1 h2 h3;subst h1 h2 h3;obtain ⟨hlen,wP⟩:=Ig hl;have mH:=Go.Xp.rU (E.out b) (iR b) ho;rw [bB,wt] at hb;rw [bB,wt] at mH;have hn:=FM es;unfold eQ at mH |-;unfold eB at hb;simp only [length_append,length_cons,length_nil] at hb mH;simp only [cT,T.n,T.kids];refine ah Tryz.func129 Tryz.ntmps129 ?_;refine GW.range (aH l).length (fun k fr Γ=>∃ y,fr=[.any,.v (.bool b),.loc 0 0,.any,.any,.any,.v (sv y),.any,.any,.any,.any,.any,.any,.any,.any,.any,.any,.any,.any,.any,.any,.any,.any,.any,.any,.any,.any,.any,.any,.any,.any,.any,.any,.any,.any,.any,.any,.any,.any,.any,.any,.any,.any,.any,.any,.any,.any,.any,.any,.any,.any,.any,.any,.any,.any,.any,.any,.any,.any,.any,.any,.any,.any,.any,.any,.any,.any,.any,.any,.any,.any,.any,.any,.any,.any,.any,.any,.any,.any,.any,.any,.any,.any,.any,.any,.any,.any,.any,.any,.any,.any,.any,.any,.any,.any,.any,.any,.any,.any,.any,.any,.any,.any,.any,.any,.any,.any,.any,.any,.any,.any,.any,.any,.any,.any,.any,.any,.any,.any,.any,.any,.any,.any,.any,.any,.any,.any,.any,.any,.any,.any,.sl 6 (aH l),.v (ii ((aH l).length:Int)),.v (ii (k:Nat)),.any,.any,.any,.any,.any,.any,.any,.any,.any,.any,.any,.any]/\Γ=[.box 56 [.v (ii 14),.v (ii aa),.v (ii 0),.v (sv []),ints ks,.sl 6 (aH l)]]/\S.cE (E.out b) y (es.drop k)=S.cE (E.out b) [123,32] es) ?_ (by rw [aL];omega) ?_ ?_ ?_
 ·exact ⟨_,_,Wk.av aj,_,rfl,rfl,rfl⟩
 ·rintro k _ _ ⟨y,rfl,rfl,_⟩;exact ⟨rfl,rfl,rfl⟩
 ·rintro k _ _ hk ⟨y,rfl,rfl,hy⟩
  have hk:k < es.length:=by rw [aL,hlen] at hk;exact hk
  have wT:k < l.length:=by omega
  have hx:es[k]?=some es[k]:=by simp [hk]
  have jR:l[k]?=some l[k]:=by simp [wT]
  have hr:=cz jR;rw [List.drop_eq_getElem_cons hk,S.cE] at hy;have hm:=mem_of_getElem? hx;have hc:=C _ hm _ (FG ho hm) (wP k _ _ jR hx) (by have:=FN hm;unfold eB;omega);generalize l[k]=t at *;generalize hgx:es[k].txt (E.out b)=x at *;have lk:=Iv (E.out b) (es.drop (k+1)) (y++x++[32]);rw [hy] at lk;simp only [length_append,length_cons,length_nil] at lk;refine ab ?_;refine U [] (hc) ?_;exact ⟨rfl,rfl,_,_,(Wk.cut (n:=1) (Nat.le_of_ble_eq_true rfl) rfl).trans (Wk.av aj),_,rfl,rfl,hy⟩
 ·rintro _ _ ⟨y,rfl,rfl,hy⟩;rw [List.drop_of_length_le (by rw [aL,hlen];exact Nat.le_refl _),S.cE] at hy;subst hy;exact ar
mutual
theorem Uk (b:Bool):∀ s:S,mR b s
 | .set s a=>M9 b s a
 | .put s a c=>M7 b s a c
 | .if1 c p=>M5 b c p (rB b p (se b p))
 | .if2 c p q=>M6 b c p q (rB b p (se b p)) (rB b q (se b q))
 | .while_ c p=>GS b c p (rB b p (se b p))
 | .ret a=>M8 b a
 | .do_ a=>Pk b a
 | .var s a=>Na b s a
theorem se (b:Bool):∀ l:List S,∀ a∈l,mR b a
 | []=>fun a h=>by cases h
 | c::l=>fun a h=>by
  rcases List.mem_cons.1 h with h | h
  ·rw [h];exact Uk b c
  ·exact se b l a h
end
theorem Uj (b:Bool) (l:List S):uH b l:=rB b l (se b l)
end Go.Xg
namespace Go.Xg
open Go.RowKit Go.Xw Go.Proofs
open Go.Xp (Tok Nd T aZ one levels Ar cn E S er aE wt eC bB eQ ei)
open Go.Sp
attribute [local irreducible] GW GL GO YG GC GA aQ aR
theorem L4 (p:Src) (hp:Bl p) (ls:List (List S)) (hb:DI p ls):GF Tryz.prog 101 [.agg (ak p)] [] (.v (.bool (ls.all fun l=>ei l 1))) []:=by
 refine ah Tryz.func101 Tryz.ntmps101 ?_;refine GW.range (p.fns.map aq).length (fun k fr Γ=>fr=[.any,.loc 0 0,.any,.any,.any,.any,.any,.any,.sl 3 (p.fns.map aq),.v (ii ((p.fns.map aq).length:Int)),.v (ii (k:Nat)),.any,.any,.any,.any,.any,.any,.any,.any,.any,.any,.any,.any,.any,.any,.any,.any,.any,.any,.any,.any,.any,.any,.any,.any,.any,.any,.any,.any,.any,.any,.any,.any,.any,.any]/\Γ=[.box 34 (ak p)]/\((ls.take k).all fun l=>ei l 1)=true) ?_ (by simpa using by have:=hp.fns.1;omega) ?_ ?_ ?_
 ·exact ⟨_,_,Wk.av aj,rfl,rfl,rfl⟩
 ·rintro k _ _ ⟨rfl,rfl,_⟩;exact ⟨rfl,rfl,rfl⟩
 ·rintro k _ _ hk ⟨rfl,rfl,hf⟩
  have hk:k < p.fns.length:=by simpa using hk
  have ef:k < ls.length:=by rw [hb.len];exact hk
  have hx:p.fns[k]?=some p.fns[k]:=by simp [hk]
  have zg:ls[k]?=some ls[k]:=by simp [ef]
  have hr:=Be hx;obtain ⟨h0,ho,hw,t,pB,Ys⟩:=hb.at_ k _ _ hx zg;have hs:=DH p (fun n hn=>(hp.nodes.2 n hn).2) _ _ _ pB;rw [Int.toNat_of_nonneg h0] at hs;have EP:=Uj true ls[k] t ho Ys (by unfold eB;omega);obtain ⟨ts,t2,q,f,h1,h2,h3,h4,h5,h6,h7⟩:=Qx ho hw;have jR:=L5 _ ts (by omega) h1;have YH:RS.ok ⟨ts,0,(eQ E.txt ls[k]).length,0,0⟩:=⟨Nat.zero_le _,by simp only;omega⟩;have dH:=(Zq f).block 1 _ t2 q YH (by omega) h5
  have kv:(E.out true)=E.txt:=by funext a;rfl
  rw [kv] at EP;generalize eQ E.txt ls[k]=tx at *;generalize uw:ei ls[k] 1=fit at *;generalize p.fns[k]=x at *
  rcases h7 with ⟨h7,h8,rfl⟩ | ⟨h7,rfl⟩
  ·have rb:(q.code != 0)=false:=by simpa using h7
   have jB:((q.i:Int) != ((q.l.map c6).length:Int))=false:=by rw [length_map,h6];simp [h8]
   refine ab ?_;refine U [] (hs) ?_;refine U [] (EP) ?_;refine U [] (jR) ?_;refine U [2] (dH) ?_;refine GW.draw (.q 0 (.q 1 (.q 2 (.q 3 (.q 4 (.q 5 (.q 6 (.q 7 (.q 8 (.q 9 (.q 10 (.q 11 (.q 12 (.q 13 (.q 14 (.q 15 (.q 16 .nil))))))))))))))))) (by kernel_rfl) (by kernel_rfl) ?_;refine ai ?_;refine ab ?_;exact ⟨rfl,rfl,_,_,(Wk.cut (n:=1) (Nat.le_of_ble_eq_true rfl) rfl).trans (Wk.av aj),rfl,rfl,so zg hf uw⟩
  ·have rb:(q.code != 0)=true:=by simpa using h7
   have aK:(ls.all fun l=>ei l 1)=false:=uJ zg uw;rw [aK];refine ab ?_;refine U [] (hs) ?_;refine U [] (EP) ?_;refine U [] (jR) ?_;refine U [2] (dH) ?_;refine GW.draw (.q 0 (.q 1 (.q 2 (.q 3 (.q 4 (.q 5 (.q 6 (.q 7 (.q 8 (.q 9 (.q 10 (.q 11 (.q 12 (.q 13 (.q 14 (.q 15 (.q 16 .nil))))))))))))))))) (by kernel_rfl) (by kernel_rfl) ?_;refine ai ?_;exact ar
 ·rintro _ _ ⟨rfl,rfl,hf⟩;rw [take_of_length_le (by rw [length_map,hb.len];exact Nat.le_refl _)] at hf;rw [hf];exact ar
theorem Kb (p:Src) (hp:Bl p) (h:nN p=some false):GF Tryz.prog 87 [.agg (ak p)] [] (.v (.bool false)) []:=by
 have hs:=A6 p hp false h;refine ah Tryz.func87 Tryz.ntmps87 ?_;refine U [] (hs) ?_;exact al
theorem Ke (p:Src) (hp:Bl p) (h:nN p=some true) (ls:List (List S)) (hb:DI p ls):GF Tryz.prog 87 [.agg (ak p)] [] (.v (.bool (ls.all fun l=>ei l 1))) []:=by
 have hs:=A6 p hp true h;have hf:=L4 p hp ls hb;generalize (ls.all fun l=>ei l 1)=b at *;refine ah Tryz.func87 Tryz.ntmps87 ?_;refine U [] (hs) ?_;refine U [] (hf) ?_;exact al
end Go.Xg
namespace Go.Xg
open Go.RowKit Go.Xw Go.Proofs
open Go.Xp (Tok Nd T levels Ar E S er wt bB eQ ei)
open Go.Sp
open Go.Im
attribute [local irreducible] GW GL GO YG GC GA aQ aR
theorem RB {p:Src} (hw:cj p<=1048576):Bl p:=by
 obtain ⟨⟨a1,a2⟩,⟨b1,b2⟩,⟨c1,c2⟩,⟨d1,d2⟩⟩:=dZ p;exact ⟨⟨by omega,fun s hs=>by have:=a2 s hs;omega⟩,⟨by omega,fun s hs=>by have:=b2 s hs;omega⟩,⟨by omega,fun f hf=>by obtain ⟨e1,e2,e3⟩:=c2 f hf;exact ⟨by omega,by omega,fun s hs=>by have:=e3 s hs;omega⟩⟩,⟨by omega,fun n hn=>by obtain ⟨e1,e2⟩:=d2 n hn;exact ⟨by omega,by omega⟩⟩⟩
theorem Kc (p:Src) (hw:cj p<=1048576):GF Tryz.prog 87 [.agg (ak p)] [] (.v (.bool (fI p))) []:=by
 have iO:=RB hw;obtain ⟨b,hb⟩:=JY p
 cases b with
 | false=>rw [WB hb];exact Kb p iO hb
 | true =>
  obtain ⟨l,hl⟩:=RD hb;obtain ⟨ls,hf⟩:=hl.I6;rw [WC hl hf];exact Ke p iO hb ls (Kw hl hf hw)
end Go.Xg
