/- Part 9 of proofs that are told in their last texts. -/
import Derived.Test.YtfahcenafcklmaaGreatDoorQ3
open List (foldl_cons length_cons mem_append mem_singleton pairwise_cons)
set_option linter.unusedVariables false
set_option linter.unusedSimpArgs false
set_option maxRecDepth 100000
namespace Go.Im
open Go.Xp Go.Sp
def xC (p:Src) (n:Nd):List Int:=if n.kind=4/\0<=rv p n.s then [rv p n.s] else []
mutual
def rV (p:Src):T->List Int
 | .mk n l=>xC p n++kH p l
def kH (p:Src):List T->List Int
 | []=>[]
 | t::r=>rV p t++kH p r
end
theorem ZY (p:Src) (t:T):rV p t=xC p t.n++kH p t.kids:=by cases t;rw [rV];rfl
def il (p:Src) (s:List Int) (_:Nat) (t:T) (_:List ae):List Int:=s++xC p t.n
mutual
theorem WC (p:Src):∀ (t:T) (a:Nat) (s:List Int) (ls:List ae),(fF (il p) t a s ls).1=s++rV p t
 | .mk n l,a,s,ls=>by
  rw [fF,rV];simp only;rw [I8 p l];unfold il;show s++xC p n++_=_;rw [eF]
theorem I8 (p:Src):∀ (l:List T) (a:Nat) (s:List Int) (ls:List ae),(cU (il p) l a s ls).1=s++kH p l
 | [],a,s,ls=>by rw [cU,kH,dN]
 | t::r,a,s,ls=>by rw [cU,I8 p r,WC p t,kH,eF]
end
theorem FJ (p:Src) (n:Nd):(xC p n).length<=1:=by unfold xC;split <;> simp
theorem QQ (p:Src):∀ (N:Nat) (t:T),aQ t<=N->(rV p t).length<=aQ t:=by
 intro N
 induction N with
 | zero=>intro t h;exact zcF
 | succ N ih =>
  intro t h
  have key:∀ l:List T,aB l<=N->(kH p l).length<=aB l:=by
   intro l
   induction l with
   | nil=>intro _;simp [kH]
   | cons u l ih2 =>
    intro h;rw [aB] at h;have:=ih u av;have:=ih2 av;rw [kH,aL,aB];omega
  rw [fH] at h |-;have:=key t.kids av;have:=FJ p t.n;rw [ZY,aL];omega
theorem IX (p:Src) (l:List T):(kH p l).length<=aB l:=by
 induction l with
 | nil=>simp [kH]
 | cons u l ih =>
  have:=QQ p _ u (aI _);rw [kH,aL,aB];omega
theorem QP (p:Src) {l:List T} {k:Nat} {t:T} (h:l[k]?=some t):kH p (l.take (k+1))=kH p (l.take k)++rV p t:=by
 have I:l.take (k+1)=l.take k++[t]:=by rw [dk,h];rfl
 have:∀ a b:List T,kH p (a++b)=kH p a++kH p b:=by
  intro a b
  induction a with
  | nil=>simp [kH]
  | cons u a ih=>simp [kH,ih]
 rw [I,this];simp [kH]
theorem UP (p:Src) (s:ae):rv p s < (p.fns.length:Int):=by
 unfold rv du
 cases h:p.fns.findIdx? (fun f:Fn=>f.name==s) with
 | none=>exact zcb
 | some i =>
  rw [List.findIdx?_eq_some_iff_getElem] at h;obtain ⟨h,_⟩:=h;exact zcb
theorem Ya (p:Src) (n:Nd):∀ x∈xC p n,0<=x/\x < (p.fns.length:Int):=by
 intro x hx;unfold xC at hx;split at hx
 ·rename_i h;rw [mem_singleton] at hx;subst hx;exact ⟨h.2,UP p _⟩
 ·simp at hx
mutual
theorem QR (p:Src):∀ (t:T),∀ x∈rV p t,0<=x/\x < (p.fns.length:Int)
 | .mk n l,x,hx=>by
  rw [rV,mem_append] at hx
  rcases hx with h | h
  ·exact Ya p n x h
  ·exact MA p l x h
theorem MA (p:Src):∀ (l:List T),∀ x∈kH p l,0<=x/\x < (p.fns.length:Int)
 | [],x,hx=>by simp [kH] at hx
 | t::r,x,hx=>by
  rw [kH,mem_append] at hx
  rcases hx with h | h
  ·exact QR p t x h
  ·exact MA p r x h
end
def kg (l:List Int):Prop:=l.Pairwise (· < ·)
theorem E8:∀ {a b:List Int},kg a->kg b->(∀ x,x∈a↔x∈b)->a=b
 | [],[],_,_,_=>rfl
 | [],y::b,_,_,h=>by have:=(h y).2 zf8;simp at this
 | x::a,[],_,_,h=>by have:=(h x).1 zf8;simp at this
 | x::a,y::b,ha,hb,h=>by
  unfold kg at ha hb;rw [pairwise_cons] at ha hb
  have mV:x=y:=by
   have I:=(h x).1 zf8;have G:=(h y).2 zf8
   rcases fh I with I | I
   ·exact I
   rcases fh G with G | G
   ·exact G.symm
   have:=hb.1 x I;have:=ha.1 y G;omega
  subst mV
  have:a=b:=E8 ha.2 hb.2 fun z=>by
   constructor
   ·intro hz;have:=(h z).1 (dK _ hz)
    rcases fh this with e | e
    ·have:=ha.1 z hz;omega
    ·exact e
   ·intro hz;have:=(h z).2 (dK _ hz)
    rcases fh this with e | e
    ·have:=hb.1 z hz;omega
    ·exact e
  rw [this]
def uD (n:Int):List Int->List Int
 | []=>[n]
 | x::r=>if n < x then n::x::r else x::uD n r
def lj (l:List Int) (n:Int):List Int:=if l.contains n=true then l else uD n l
theorem DI {n:Int}:∀ {l:List Int} {x:Int},x∈uD n l↔x=n\/x∈l
 | [],x=>by simp [uD]
 | y::r,x=>by
  rw [uD];split
  ·simp
  ·rw [List.mem_cons,DI,List.mem_cons];constructor
   ·rintro (h | h | h)
    ·exact .inr (.inl h)
    ·exact .inl h
    ·exact .inr (.inr h)
   ·rintro (h | h | h)
    ·exact .inr (.inl h)
    ·exact .inl h
    ·exact .inr (.inr h)
theorem C7 {n:Int}:∀ {l:List Int},kg l->n ∉ l->kg (uD n l)
 | [],_,_=>by simp [uD,kg]
 | y::r,h,hn=>by
  unfold kg at h |-;rw [pairwise_cons] at h;rw [uD];rw [List.mem_cons,not_or] at hn;split
  ·rename_i au;rw [pairwise_cons,pairwise_cons];refine ⟨fun z hz=>?_,h.1,h.2⟩
   rcases fh hz with e | e
   ·omega
   ·have:=h.1 z e;omega
  ·rename_i au;rw [pairwise_cons];refine ⟨fun z hz=>?_,C7 h.2 hn.2⟩
   rcases DI.1 hz with e | e
   ·have:=hn.1;omega
   ·exact h.1 z e
theorem KG {l:List Int} {n x:Int}:x∈lj l n↔x=n\/x∈l:=by
 unfold lj;split
 ·rename_i h;have:=ea.1 h;constructor
  ·exact .inr
  ·rintro (rfl | h)
   ·exact this
   ·exact h
 ·exact DI
theorem Me {l:List Int} {n:Int} (h:kg l):kg (lj l n):=by
 unfold lj;split
 ·exact h
 ·rename_i hc
  exact C7 h fun e=>hc (ea.2 e)
theorem DH {n:Int}:∀ {l:List Int},(uD n l).length=l.length+1
 | []=>rfl
 | y::r=>by
  rw [uD];split
  ·simp
  ·rw [length_cons,DH,length_cons]
theorem VQ {l:List Int} {n:Int}:(lj l n).length<=l.length+1:=by
 unfold lj;split
 ·omega
 ·rw [DH];omega
def rP (n:Int) (st:List Int × Bool) (x:Int):List Int × Bool:=if (!st.2&&decide (n < x))=true then (st.1++[n]++[x],true) else (st.1++[x],st.2)
def mg (l:List Int) (n:Int) (k:Nat):List Int × Bool:=(l.take k).foldl (rP n) ([],false)
theorem HP {l:List Int} {n:Int} {k:Nat} {x:Int} (h:l[k]?=some x):mg l n (k+1)=rP n (mg l n k) x:=by
 unfold mg;rw [dk,h,List.foldl_append];rfl
theorem G6 (n:Int):∀ (l acc:List Int),l.foldl (rP n) (acc,true)=(acc++l,true)
 | [],acc=>by simp
 | x::r,acc=>by
  rw [foldl_cons,show rP n (acc,true) x=(acc++[x],true) by simp [rP],G6 n r];simp
theorem JA (n:Int):∀ (l acc:List Int),(if (l.foldl (rP n) (acc,false)).2=true then (l.foldl (rP n) (acc,false)).1 else (l.foldl (rP n) (acc,false)).1++[n])=acc++uD n l
 | [],acc=>by simp [uD]
 | x::r,acc=>by
  rw [foldl_cons,uD]
  by_cases h:n < x
  ·rw [show rP n (acc,false) x=(acc++[n]++[x],true) by simp [rP,h],G6,ah h];simp
  ·rw [show rP n (acc,false) x=(acc++[x],false) by simp [rP,h],ab h,JA n r];simp
theorem VR (l:List Int) (n:Int) (h:l.contains n=false):(if (mg l n l.length).2=true then (mg l n l.length).1 else (mg l n l.length).1++[n])=lj l n:=by
 unfold mg lj;rw [c7,JA,ab (by rw [h];decide)];rfl
theorem KH (l:List Int) (n:Int) (k:Nat):(mg l n k).1.length<=k+1/\((mg l n k).2=false->(mg l n k).1.length<=k):=by
 induction k with
 | zero=>simp [mg]
 | succ k ih =>
  rcases Nat.lt_or_ge k l.length with h | h
  ·rw [HP (bV h)];unfold rP;split
   ·rename_i hc;rw [aK] at hc;have:=ih.2 (by simpa using hc.1);refine ⟨by simp;omega,fun h=>by cases h⟩
   ·refine ⟨by simp;exact ih.1,fun G=>?_⟩;have:=ih.2 G;simp;omega
  ·have:mg l n (k+1)=mg l n k:=by unfold mg;rw [n7 av,n7 av]
   rw [this];exact ⟨by omega,fun G=>by have:=ih.2 G;omega⟩
def r9 (l:List Int):List Int:=l.foldl lj []
theorem BN:∀ (l acc:List Int),kg acc->kg (l.foldl lj acc)/\∀ x,x∈l.foldl lj acc↔x∈acc\/x∈l
 | [],acc,h=>⟨h,fun x=>by simp⟩
 | y::r,acc,h=>by
  obtain ⟨I,G⟩:=BN r (lj acc y) (Me h);refine ⟨I,fun x=>?_⟩;rw [foldl_cons,G,KG,List.mem_cons];constructor
  ·rintro ((h | h) | h)
   ·exact .inr (.inl h)
   ·exact .inl h
   ·exact .inr (.inr h)
  ·rintro (h | h | h)
   ·exact .inl (.inr h)
   ·exact .inl (.inl h)
   ·exact .inr h
theorem vL (l:List Int):kg (r9 l):=(BN l [] List.Pairwise.nil).1
theorem Ao {l:List Int} {x:Int}:x∈r9 l↔x∈l:=by
 have:=(BN l [] List.Pairwise.nil).2 x;unfold r9;rw [this];simp
theorem Ap:∀ {l:List Int} {a b:Int},kg l->(∀ x∈l,a<=x/\x < b)->a<=b->(l.length:Int)<=b - a
 | [],a,b,_,_,h=>by simp;omega
 | x::r,a,b,h,hb,WU=>by
  unfold kg at h;rw [pairwise_cons] at h;have hx:=hb x zf8;have:=Ap (l:=r) (a:=x+1) (b:=b) h.2 (fun y hy=>by have:=h.1 y hy;have:=hb y (dK _ hy);omega) av;rw [length_cons];omega
theorem BJ {l:List Int} {n:Nat} (h:l.Nodup) (hb:∀ x∈l,0<=x/\x < (n:Int)):l.length<=n:=by
 have I:(r9 l).length=l.length:=by
  have key:∀ (l acc:List Int),l.Nodup->(∀ x∈l,x ∉ acc)->(l.foldl lj acc).length=acc.length+l.length:=by
   intro l
   induction l with
   | nil=>intro acc _ _;simp
   | cons y r ih =>
    intro acc I G;rw [List.nodup_cons] at I
    have hy:acc.contains y=false:=by
     cases hc:acc.contains y with
     | false=>rfl
     | true=>exact absurd (ea.1 hc) (G y zf8)
    rw [foldl_cons,ih _ I.2 fun x hx hm=>?_]
    ·unfold lj;rw [ab (by rw [hy];decide),DH,length_cons];omega
    ·rcases KG.1 hm with e | e
     ·subst e;exact I.1 hx
     ·exact G x (dK _ hx) e
  have:=key l [] h zf8;unfold r9;rw [this];simp
 have G:=Ap (vL l) (a:=0) (b:=n) (fun x hx=>hb x (Ao.1 hx)) av;omega
def bS (p:Src) (t:T):List Int:=r9 (rV p t)
theorem rp (p:Src) (t:T):kg (bS p t):=vL _
theorem qp (p:Src) (t:T):∀ x∈bS p t,0<=x/\x < (p.fns.length:Int):=fun x hx=>QR p t x (Ao.1 hx)
theorem uY (p:Src) (t:T):(bS p t).length<=p.fns.length:=by
 have:=Ap (rp p t) (a:=0) (b:=p.fns.length) (qp p t) av;omega
theorem xg {l:List Int} (h:kg l):l.Nodup:=by
 unfold kg at h;exact h.imp (fun {a b} WU=>by omega)
def addN (l ks:List Int):List Int:=ks.foldl (fun l k=>if l.contains k=true then l else l++[k]) l
theorem GP (l:List Int) (ks:List Int) (k:Nat) (x:Int) (h:ks[k]?=some x):addN l (ks.take (k+1))=if (addN l (ks.take k)).contains x=true then addN l (ks.take k) else addN l (ks.take k)++[x]:=by
 unfold addN;rw [dk,h,List.foldl_append];rfl
theorem sx:∀ {ks l:List Int} {x:Int},x∈addN l ks↔x∈l\/x∈ks
 | [],l,x=>by simp [addN]
 | k::r,l,x=>by
  have:=@sx r (if l.contains k=true then l else l++[k]) x;unfold addN at this |-;rw [foldl_cons,this,List.mem_cons];split
  ·rename_i hc;have:=ea.1 hc;constructor
   ·rintro (h | h)
    ·exact .inl h
    ·exact .inr (.inr h)
   ·rintro (h | h | h)
    ·exact .inl h
    ·subst h;exact .inl this
    ·exact .inr h
  ·rw [mem_append,mem_singleton,or_assoc]
theorem zu:∀ {ks l:List Int},l.Nodup->(addN l ks).Nodup
 | [],l,h=>h
 | k::r,l,h=>by
  have hn:(if l.contains k=true then l else l++[k]).Nodup:=by
   split
   ·exact h
   ·rename_i hc;rw [List.nodup_append];refine ⟨h,by simp,fun a ha b hb e=>?_⟩;rw [mem_singleton] at hb;subst e;subst hb;exact hc (ea.2 ha)
  exact zu (ks:=r) hn
theorem zw:∀ (ks l:List Int),∃ m,addN l ks=l++m
 | [],l=>⟨[],by simp [addN]⟩
 | k::r,l=>by
  have e:addN l (k::r)=addN (if l.contains k=true then l else l++[k]) r:=rfl;rw [e];obtain ⟨m,hm⟩:=zw r (if l.contains k=true then l else l++[k]);rw [hm];split
  ·exact ⟨m,rfl⟩
  ·exact ⟨[k]++m,by simp⟩
def oM (cs:Int->List Int):Nat->Nat->List Int->List Int
 | 0,_,l=>l
 | f+1,i,l=>match l[i]? with | none=>l | some x=>oM cs f (i+1) (addN l (cs x))
theorem AV (cs:Int->List Int) (S:Int->Prop) (hS:∀ x,S x->∀ y∈cs x,S y) :
  ∀ (f i:Nat) (L:List Int),(∀ x∈L,S x)->∀ x∈oM cs f i L,S x
 | 0,i,L,h=>by rw [oM];exact h
 | f+1,i,L,h=>by
  rw [oM];split
  ·exact h
  ·rename_i x0 qg
   refine AV cs S hS f (i+1) _ fun x hx=>?_
   rcases sx.1 hx with I | I
   ·exact h x I
   ·exact hS x0 (h x0 (bo qg)) x I
end Go.Im
