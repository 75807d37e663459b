/- Part 14 of proofs that are told in their last texts. -/
import Derived.Test.YtfahcenafcklmaaGreatDoorQ9
open List (mem_singleton)
set_option linter.unusedVariables false
set_option linter.unusedSimpArgs false
set_option maxRecDepth 100000
namespace Go.Im
open Go.Xp Go.Sp
theorem D8 (cs:Int->List Int) (n:Nat) (jL:∀ x,∀ y∈cs x,0<=y/\y < (n:Int)) :
  ∀ (f i:Nat) (L:List Int),L.Nodup->(∀ y∈L,0<=y/\y < (n:Int))->n+1<=f+i ->
   (∀ j x,j < i->L[j]?=some x->∀ y∈cs x,y∈L) ->
   ∀ x∈oM cs f i L,∀ y∈cs x,y∈oM cs f i L
 | 0,i,L,hn,hr,hf,hj=>by
  intro x hx y hy;rw [oM] at hx |-;obtain ⟨j,qd,he⟩:=List.mem_iff_getElem.1 hx;have:=BJ hn hr;exact hj j x av (by rw [bV qd,he]) y hy
 | f+1,i,L,hn,hr,hf,hj=>by
  cases hi:L[i]? with
  | none =>
   have hb:oM cs (f+1) i L=L:=by rw [oM,hi]
   rw [hb];intro x hx y hy;obtain ⟨j,qd,he⟩:=List.mem_iff_getElem.1 hx;have:=pS hi;exact hj j x av (by rw [bV qd,he]) y hy
  | some x0 =>
   have hb:oM cs (f+1) i L=oM cs f (i+1) (addN L (cs x0)):=by rw [oM,hi]
   rw [hb];refine D8 cs n jL f (i+1) _ (zu hn) (fun y hy=>?_) av (fun j x lS W3 y hy=>?_)
   ·rcases sx.1 hy with I | I
    ·exact hr y I
    ·exact jL x0 y I
   ·have ue:i < L.length:=by
     rcases Nat.lt_or_ge i L.length with h | h
     ·exact h
     ·rw [List.getElem?_eq_none h] at hi;cases hi
    obtain ⟨m,hm⟩:=zw (cs x0) L
    have qd:j < L.length:=by omega
    rw [hm,gm qd] at W3
    rcases Nat.lt_or_ge j i with h | h
    ·exact sx.2 (.inl (hj j x h W3 y hy))
    ·have:j=i:=by omega
     subst this;rw [hi] at W3;cases W3;exact sx.2 (.inr hy)
def gP (F:Int->List Int) (a b:Int):Bool:=a==b || ((F a).contains b&&(F b).contains a)
def Wt (F:Int->List Int):Prop:=∀ a b,b∈F a->∀ c∈F b,c∈F a
theorem pB {F:Int->List Int} {a b:Int}:gP F a b=true↔a=b\/(b∈F a/\a∈F b):=by
 unfold gP;rw [Bool.or_eq_true,aK,beq_iff_eq,ea,ea]
theorem PZ (F:Int->List Int) (a:Int):gP F a a=true:=pB.2 (.inl rfl)
theorem Fe {F:Int->List Int} {a b:Int} (h:gP F a b=true):gP F b a=true:=by
 rcases pB.1 h with h | ⟨I,G⟩
 ·exact pB.2 (.inl h.symm)
 ·exact pB.2 (.inr ⟨G,I⟩)
theorem Mg {F:Int->List Int} (ht:Wt F) {a b c:Int} (h:gP F a b=true) (g:gP F b c=true):gP F a c=true:=by
 rcases pB.1 h with h | ⟨I,G⟩
 ·subst h;exact g
 ·rcases pB.1 g with g | ⟨g1,g2⟩
  ·subst g;exact h
  ·exact pB.2 (.inr ⟨ht a b I c g1,ht c b g2 a G⟩)
def xG (F:Int->List Int) (out:List (List Int)) (k:Int):Option Nat:=out.findIdx? fun l=>gP F (l.headD 0) k
def nK (F:Int->List Int) (out:List (List Int)) (k:Int):List (List Int) :=
 match xG F out k with
 | some i=>out.set i ((out[i]?.getD [])++[k])
 | none=>out++[[k]]
def ft (F:Int->List Int):Nat->List (List Int)
 | 0=>[]
 | k+1=>nK F (ft F k) (k:Int)
structure ZG (F:Int->List Int) (n:Nat) (out:List (List Int)):Prop where
 ne:∀ l∈out,l≠[]
 mem:∀ l∈out,∀ x∈l,0<=x/\x < (n:Int)/\gP F (l.headD 0) x=true
 all:∀ x:Int,0<=x->x < (n:Int)->∃ l∈out,x∈l
 heads:∀ (i j:Nat) (a b:List Int),out[i]?=some a->out[j]?=some b->gP F (a.headD 0) (b.headD 0)=true->i=j
theorem Ew {l:List Int} (h:l≠[]) (x d:Int):(l++[x]).headD d=l.headD d:=by
 cases l with
 | nil=>exact absurd rfl h
 | cons a l=>rfl
theorem we {F:Int->List Int} (ht:Wt F):∀ n,ZG F n (ft F n)
 | 0=>⟨by simp [ft],by simp [ft],fun x I G=>by omega,by simp [ft]⟩
 | n+1=>by
  have ih:=we ht n;rw [ft];generalize ft F n=out at ih;unfold nK
  cases hg:xG F out (n:Int) with
  | none =>
   have cS:∀ l∈out,gP F (l.headD 0) (n:Int)=false:=by
    unfold xG at hg;rw [List.findIdx?_eq_none_iff] at hg;exact hg
   refine ⟨fun l hl=>?_,fun l hl x hx=>?_,fun x I G=>?_,fun i j a b hi hj hs=>?_⟩
   ·rcases mo hl with h | h
    ·exact ih.ne l h
    ·rw [mem_singleton] at h;subst h;simp
   ·rcases mo hl with h | h
    ·obtain ⟨a,b,c⟩:=ih.mem l h x hx;exact zfF
    ·rw [mem_singleton] at h;subst h;rw [mem_singleton] at hx;subst hx;exact ⟨by omega,by push_cast;omega,PZ _ _⟩
   ·by_cases h:x=(n:Int)
    ·exact ⟨[(n:Int)],by simp,by simp [h]⟩
    ·obtain ⟨l,hl,hx⟩:=ih.all x I (by push_cast at G;omega);exact ⟨l,List.mem_append_left _ hl,hx⟩
   ·rcases Nat.lt_or_ge i out.length with I | I
    ·rw [gm I] at hi
     rcases Nat.lt_or_ge j out.length with G | G
     ·rw [gm G] at hj;exact ih.heads i j a b hi hj hs
     ·rw [gR G] at hj;have hb:b=[(n:Int)]:=xq (bo hj);subst hb;have:=cS a (bo hi);rw [show ([(n:Int)]:List Int).headD 0=(n:Int) from rfl,this] at hs;cases hs
    ·rw [gR I] at hi;have ha:a=[(n:Int)]:=xq (bo hi);subst ha
     have Bj:i - out.length < 1:=by
      rcases Nat.lt_or_ge (i - out.length) 1 with h | h
      ·exact h
      ·rw [List.getElem?_eq_none zgc] at hi;cases hi
     rcases Nat.lt_or_ge j out.length with G | G
     ·rw [gm G] at hj;have:=cS b (bo hj);rw [show ([(n:Int)]:List Int).headD 0=(n:Int) from rfl] at hs;rw [Fe hs] at this;cases this
     ·rw [gR G] at hj
      have R1:j - out.length < 1:=by
       rcases Nat.lt_or_ge (j - out.length) 1 with h | h
       ·exact h
       ·rw [List.getElem?_eq_none zgc] at hj;cases hj
      omega
  | some i0 =>
   unfold xG at hg;rw [List.findIdx?_eq_some_iff_getElem] at hg;obtain ⟨Bj,vq,-⟩:=hg;have U5:out[i0]?=some out[i0]:=bV Bj;have zS:out[i0]∈out:=List.getElem_mem Bj;simp only [U5,Option.getD_some];generalize wT:out[i0]=l0 at *;have cj:=ih.ne l0 zS
   have jB:∀ (i:Nat) (a:List Int),(out.set i0 (l0++[(n:Int)]))[i]?=some a->(i=i0/\a=l0++[(n:Int)])\/(i≠i0/\out[i]?=some a):=by
    intro i a h;rw [fb] at h;split at h
    ·rename_i he;cases h;exact .inl ⟨he.symm,rfl⟩
    ·rename_i he;exact .inr ⟨fun e=>he e.symm,h⟩
   have W1:∀ (i:Nat) (a:List Int),(out.set i0 (l0++[(n:Int)]))[i]?=some a->∃ a',out[i]?=some a'/\a.headD 0=a'.headD 0:=by
    intro i a h
    rcases jB i a h with ⟨I,G⟩ | ⟨I,G⟩
    ·subst I G;exact ⟨l0,U5,Ew cj _ _⟩
    ·exact ⟨a,G,rfl⟩
   refine ⟨fun l hl=>?_,fun l hl x hx=>?_,fun x I G=>?_,fun i j a b hi hj hs=>?_⟩
   ·obtain ⟨i,hi⟩:=List.mem_iff_getElem?.1 hl
    rcases jB i l hi with ⟨I,G⟩ | ⟨I,G⟩
    ·subst G;simp
    ·exact ih.ne l (bo G)
   ·obtain ⟨i,hi⟩:=List.mem_iff_getElem?.1 hl
    rcases jB i l hi with ⟨I,G⟩ | ⟨I,G⟩
    ·subst G;rw [Ew cj]
     rcases mo hx with h | h
     ·obtain ⟨a,b,c⟩:=ih.mem l0 zS x h;exact zfF
     ·rw [mem_singleton] at h;subst h;exact ⟨by omega,by push_cast;omega,vq⟩
    ·obtain ⟨a,b,c⟩:=ih.mem l (bo G) x hx;exact zfF
   ·by_cases h:x=(n:Int)
    ·exact ⟨l0++[(n:Int)],bo (by rw [fb,ah rfl,ah Bj]:(out.set i0 (l0++[(n:Int)]))[i0]?=some _),by simp [h]⟩
    ·obtain ⟨l,hl,hx⟩:=ih.all x I (by push_cast at G;omega);obtain ⟨i,hi⟩:=List.mem_iff_getElem?.1 hl
     by_cases he:i=i0
     ·subst he;rw [U5] at hi;cases hi;exact ⟨l0++[(n:Int)],bo (by rw [fb,ah rfl,ah Bj]:(out.set i (l0++[(n:Int)]))[i]?=some _),List.mem_append_left _ hx⟩
     ·exact ⟨l,bo (by rw [fb,ab (fun e=>he e.symm)];exact hi:(out.set i0 (l0++[(n:Int)]))[i]?=some l),hx⟩
   ·obtain ⟨a',ha,hae⟩:=W1 i a hi;obtain ⟨b',hb,rF⟩:=W1 j b hj;rw [hae,rF] at hs;exact ih.heads i j a' b' ha hb hs
end Go.Im
