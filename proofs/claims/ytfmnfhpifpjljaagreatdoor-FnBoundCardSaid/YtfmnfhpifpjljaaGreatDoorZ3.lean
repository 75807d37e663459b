/- Part 3 of proofs that are told in their last texts. -/
import Derived.Test.YtfmnfhpifpjljaaGreatDoorZ2
open List (foldl_cons length_cons mem_singleton nodup_cons pairwise_cons)
set_option linter.unusedVariables false
set_option linter.unusedSimpArgs false
set_option linter.defProp false
set_option maxRecDepth 100000
namespace Go.Im
open Go.Xp Go.Sp Go.Mn
def Yu(n:Nd):Prop:=(n.ab=1->0<=n.n/\n.n<=2147483647)/\(n.ab=5->n.s=[45]\/n.s=[33]\/n.s=[126])/\(n.ab=6->fX n.s=true)
theorem pN{n:Nd}(M:n.ab≠1)(v:n.ab≠5)(w:n.ab≠6):Yu n:=⟨fun h=>absurd h M,fun h=>absurd h v,fun h=>absurd h w⟩
mutual
def kP:T->Prop
 |.mk n l=>Yu n/\fm l
def fm:List T->Prop
 |[]=>True
 |t::r=>kP t/\fm r
end
mutual
theorem TB:∀t:T,kP (er t)↔kP t
 |.mk n l=>by rw[er,kP,kP,Pu l];rfl
theorem Pu:∀l:List T,fm (bo l)↔fm l
 |[]=>by rw[bo]
 |t::r=>by rw[bo,fm,fm,TB t,Pu r]
end
mutual
theorem E.sx:∀a:E,a.ok=true->kP a.tree
 |.num n,h=>by
  rw[E.ok,aU,decide_eq_true_eq,decide_eq_true_eq]at h;rw[E.tree,kP];exact⟨⟨fun _=>h,fun h=>absurd h ze6,fun h=>absurd h ze6⟩,trivial⟩
 |.name s,_=>by rw[E.tree,kP];exact⟨pN ze6 ze6 ze6,trivial⟩
 |.at_ s a,h=>by rw[E.ok,aU]at h;rw[E.tree,kP,fm,fm];exact zes
 |.call s l,h=>by rw[E.ok,aU]at h;rw[E.tree,kP];exact⟨pN ze6 ze6 ze6,E.D9 l h.2⟩
 |.un s a,h=>by
  rw[E.ok,aU]at h;rw[E.tree,kP,fm,fm];refine⟨⟨fun h=>absurd h ze6,fun _=>?_,fun h=>absurd h ze6⟩,E.sx a h.2,trivial⟩;have M:=h.1;simp only[Bool.or_eq_true,beq_iff_eq]at M
  rcases M with(M|M)|M
  ·exact .inl M
  ·exact .inr (.inl M)
  ·exact .inr (.inr M)
 |.bin s a b,h=>by
  rw[E.ok,aU,aU]at h;rw[E.tree,kP,fm,fm,fm];exact⟨⟨fun h=>absurd h ze6,fun h=>absurd h ze6,fun _=>h.1.1⟩,E.sx a h.1.2,E.sx b h.2,trivial⟩
theorem E.D9:∀l:List E,E.dF l=true->fm (E.aM l)
 |[],_=>trivial
 |a::l,h=>by rw[E.dF,aU]at h;rw[E.aM,fm];exact⟨E.sx a h.1,E.D9 l h.2⟩
end
mutual
theorem S.sx:∀a:S,a.ok=true->kP a.tree
 |.set s a,h=>by rw[S.ok,aU]at h;exact zc9
 |.put s a b,h=>by rw[S.ok,aU,aU]at h;rw[S.tree,kP,fm,fm,fm];simp_all[pN,E.sx,trivial]
 |.if1 c b,h=>zdy
 |.if2 c b d,h=>by rw[S.ok,aU,aU]at h;rw[S.tree,kP,fm,fm,fm,fm,kP,kP];simp_all[pN,E.sx,S.D9,trivial]
 |.while_ c b,h=>zdy
 |.ret a,h=>by rw[S.ok]at h;exact zc9
 |.do_ a,h=>by rw[S.ok]at h;exact zc9
 |.var s a,h=>by rw[S.ok,aU]at h;rw[S.tree,kP,fm,fm];exact zes
theorem S.D9:∀l:List S,S.dF l=true->fm (S.aM l)
 |[],_=>trivial
 |a::l,h=>by rw[S.dF,aU]at h;rw[S.aM,fm];exact⟨S.sx a h.1,S.D9 l h.2⟩
end
theorem Yv(l:List S)(h:S.dF l=true):kP (cy l):=by grind[pN,S.D9,kP,cy]
def Good.sx{p:Src}{l:List T}(h:Good p l){i:Nat}{t:T}(o:l[i]?=some t):kP t:=by
 have⟨H,G⟩:=h.st.Ez;have u:=(bR o).1;have E:=G.len;have⟨M,v⟩:=G.at_ i t _ o (cq aI)
 grind[TB,Yv]
def Ki:∀{l:List T}{k:Nat}{t:T},fm l->l[k]?=some t->kP t
 |[],k,t,h,m=>by simp at m
 |a::l,0,t,h,m=>by grind[fm]
 |a::l,k+1,t,h,m=>by rw[fm]at h;exact Ki (l:=l) h.2 m
end Go.Im
namespace Go.Mn
structure ja where
 fin:Int
 why:Int
 n:Int
 out:List Int
 a7:Nat
 cN:List Int
def xb(t:M):ja:=if t.fin=0 then⟨1,0,t.b6,t.out,t.a7,t.cN⟩else⟨t.fin,t.why,0,t.out,t.a7,t.cN⟩
def Qj:ja:=⟨4,0,0,[],0,[]⟩
section
variable{O:Op}{F:Nat}{B:Nat->R}
def Gz(O:Op)(F:Nat)(B:Nat->R)(r:R)(s:M):M:=match ev O F B (3*F+1) r s with
 |some (_,t)=>t
 |none=>s
def J7(r:R)(s:M):∃v,ev O F B (3*F+1) r s=some (v,Gz O F B r s):=by
 obtain⟨v,t,h,_⟩:=(Yy (O:=O) (F:=F) (B:=B) F).e (3*F+1) r s aI (aQ _);exact⟨v,by unfold Gz;rw[h]⟩
end
def wo(o:Bool):Nat:=if o=true then 1 else 0
def wp(o:Bool):Nat:=if o=true then 0 else 1
mutual
def gR(o:Bool)(c:Nat->Nat):R->Nat
 |.num n=>0
 |.loc k=>0
 |.glob k=>0
 |.at_ k i=>wo o+gR o c i
 |.size n=>0
 |.get=>0
 |.put a=>wp o+(wo o+gR o c a)
 |.call f l=>xo o c l+c f
 |.un _ a=>wo o+gR o c a
 |.bin _ a b=>(wo o+gR o c a)+(wo o+gR o c b)
 |.and_ a b=>(wo o+gR o c a)+(wo o+gR o c b)
 |.or_ a b=>(wo o+gR o c a)+(wo o+gR o c b)
 |.setL k a=>wo o+gR o c a
 |.setG k a=>wo o+gR o c a
 |.putA k i v=>(wo o+gR o c i)+(wo o+gR o c v)
 |.if1 a t=>(wo o+gR o c a)+(wo o+gR o c t)
 |.if2 a t e=>(wo o+gR o c a)+max (wo o+gR o c t) (wo o+gR o c e)
 |.while_ a b=>0
 |.ret a=>wo o+gR o c a
 |.do_ a=>wo o+gR o c a
 |.block l=>xo o c l
def xo(o:Bool)(c:Nat->Nat):List R->Nat
 |[]=>0
 |r::l=>(wo o+gR o c r)+xo o c l
end
mutual
def R.nw(ab8:Nat->Prop):R->Prop
 |.num n=>True
 |.loc k=>True
 |.glob k=>True
 |.at_ k i=>i.nw ab8
 |.size n=>True
 |.get=>True
 |.put a=>a.nw ab8
 |.call f l=>ab8 f/\R.uO ab8 l
 |.un o a=>a.nw ab8
 |.bin o a b=>a.nw ab8/\b.nw ab8
 |.and_ a b=>a.nw ab8/\b.nw ab8
 |.or_ a b=>a.nw ab8/\b.nw ab8
 |.setL k a=>a.nw ab8
 |.setG k a=>a.nw ab8
 |.putA k i v=>i.nw ab8/\v.nw ab8
 |.if1 c t=>c.nw ab8/\t.nw ab8
 |.if2 c t e=>c.nw ab8/\t.nw ab8/\e.nw ab8
 |.while_ c b=>False
 |.ret a=>a.nw ab8
 |.do_ a=>a.nw ab8
 |.block l=>R.uO ab8 l
def R.uO(ab8:Nat->Prop):List R->Prop
 |[]=>True
 |r::l=>r.nw ab8/\R.uO ab8 l
end
def Bd(o:Bool)(F:Nat)(s t:M)(c:Nat):Prop:=if o=true then t.a7<=s.a7+c/\(t.fin=3->F<s.a7+c)else t.out.length<=s.out.length+c
section
variable{O:Op}{F:Nat}{B:Nat->R}{o:Bool}{ab8:Nat->Prop}{c:Nat->Nat}
theorem Bd.mono{s t:M}{a b:Nat}(h:Bd o F s t a)(v:a<=b):Bd o F s t b:=by
 grind[Bd]
theorem YZ{s t:M}(N:t.a7=s.a7)(v:t.fin≠3)(w:t.out=s.out):Bd o F s t 0:=by
 grind[Bd]
theorem IB{S:Type}{v y:S}{s t u:M}{n:Nat}(q:Bd o F s t n)(h:some (v,t)=some (y,u)):Bd o F s u n:=by grind
theorem c6{S:Type}{v y:S}{s u:M}{n:Nat}(t:s.fin≠3)(h:some (v,s)=some (y,u)):Bd o F s u n:=IB ((YZ rfl t rfl).mono (bg _)) h
theorem gb{S β:Type}{x:Option (S × M)}{k:S->M->Option (β × M)}{s:M}{a b:Nat}{y:β}{u:M}(hx:∀v t,x=some (v,t)->Bd o F s t a)(V:∀v t,x=some (v,t)->t.a7<=F)(l:∀v t y u,t.fin≠3->t.a7<=F->k v t=some (y,u)->Bd o F t u b)(r:Rest k)(h:kh x k=some (y,u)):Bd o F s u (a+b):=by
 have⟨v,t,N,w⟩:=cH h;have hx:=hx v t N
 by_cases z:t.fin=3
 ·have⟨C,L,A⟩:=r v t y u z w
  grind[Bd]
 grind[Bd]
theorem fw{S:Type}{p:Prop}[Decidable p]{a b:Option (S × M)}{s:M}{y:S}{u:M}{n:Nat}(ha:a=some (y,u)->Bd o F s u n)(v:b=some (y,u)->Bd o F s u n)(h:(if p then a else b)=some (y,u)):Bd o F s u n:=by
 grind
theorem TY{s t:M}{n:Nat}(h:Bd o F { s with a7:=s.a7+1 } t n):Bd o F s t (wo o+n):=by
 grind[Bd,wo]
theorem Sz(C:∀f,ab8 f->(B f).nw ab8/\wo o+gR o c (B f)<=c f):∀g:Nat,(∀r s v t,r.nw ab8->s.fin≠3->s.a7<=F->ev O F B g r s=some (v,t)->Bd o F s t (wo o+gR o c r))/\(∀r s v t,r.nw ab8->s.fin≠3->s.a7<=F->bZ O F B g r s=some (v,t)->Bd o F s t (gR o c r))/\(∀l A s v t,R.uO ab8 l->s.fin≠3->s.a7<=F->pd O F B g l A s=some (v,t)->Bd o F s t (xo o c l))/\(∀l s v t,R.uO ab8 l->s.fin≠3->s.a7<=F->n8 O F B g l s=some (v,t)->Bd o F s t (xo o c l))
 |0=>⟨fun r s v t _ _ _ h=>(by grind[ev]),fun r s v t _ _ _ h=>(by grind[bZ]),fun l A s v t _ _ _ h=>(by grind[pd]),fun l s v t _ _ _ h=>(by grind[n8])⟩
 |g+1=>by
  have⟨J,L,G,H⟩:=Sz C g;have⟨T,l2,V,W,l5⟩:=vA (O:=O) (B:=B) (Z6 F) g
  have q:∀r(s:M),s.a7<=F->∀v t,ev O F B g r s=some (v,t)->t.a7<=F:=fun r s m v t h=>(T r s v t h).2 m
  have E:∀r(s:M),r.nw ab8->s.fin≠3->s.a7<=F->∀v t,ev O F B g r s=some (v,t)->Bd o F s t (wo o+gR o c r):=fun r s a b c v t h=>J r s v t a b c h
  refine⟨fun r s v t j z m h=>?_,fun r s v t j z m h=>?_,fun l A s v t j z m h=>?_,fun l s v t j z m h=>?_⟩
  ·rw[ev]at h;split at h
   ·rename_i N;cases h
    grind[Bd,M.stop,wo,gR]
   ·rename_i N;exact TY (L r _ v t j z ze3 h)
  ·cases r with
   |num n=>grind[bZ,c6]
   |loc k=>grind[bZ,c6]
   |glob k=>grind[bZ,c6]
   |size n=>grind[bZ,c6]
   |get =>
    simp only[bZ]at h
    grind[Bd,gR]
   |at_ k i =>
    rw[R.nw]at j;simp only[bZ]at h;exact gb (b:=0) (E _ _ j z m) (q _ _ m) (fun v t y u d _=>fw (c6 d) (fw (c6 d) (fun h=>by cases h;simp[Bd,M.stop]))) (eZ _ _) h
   |put a =>
    rw[R.nw]at j;simp only[bZ]at h
    have:=gb (b:=wp o) (E _ _ j z m) (q _ _ m) (fun v t y u d _=>fw (c6 d) (IB (by
     unfold Bd wp
     grind))) (eZ _ _) h
    grind[Bd,gR]
   |call f l =>
    rw[R.nw]at j;simp only[bZ]at h;rw[gR];refine gb (G _ _ _ · · j.2 z m ·) (fun v t h=>(V _ _ _ _ _ h).2 m) (fun v t y u d e=>fw (c6 d) (fw (fun h=>by cases h;simp[Bd,M.stop]) fun h=>?_)) (eZ _ _) h;have⟨w,x,Q,S⟩:=cH h;cases S;exact(E _ _ (C f j.1).1 (by exact d) (by exact e) w x Q).mono (C f j.1).2
   |un p a =>
    exact zct
   |bin p a b =>
    rw[R.nw]at j;simp only[bZ]at h;exact gb (E _ _ j.1 z m) (q _ _ m) (fun v t y u d e=>fw (c6 d) (gb (b:=0) (E _ _ j.2 d e) (q _ _ e) (fun v t y u d _=>fw (c6 d) (fw (fun h=>by cases h;simp[Bd,M.stop,Op.bin]) (c6 d))) (eZ _ _))) (eZ _ _) h
   |and_ a b =>
    exact zbc
   |or_ a b =>
    exact zbc
   |setL k a =>
    exact zaO
   |setG k a =>
    exact zaO
   |putA k i w =>
    rw[R.nw]at j;simp only[bZ]at h;exact gb (E _ _ j.1 z m) (q _ _ m) (fun v t y u d e=>fw (c6 d) (fw (gb (b:=0) (E _ _ j.2 d e) (q _ _ e) (fun v t y u d _=>fw (c6 d) (fun h=>by cases h;grind[Bd,qJ])) (eZ _ _)) (fun h=>by cases h;simp[Bd,M.stop,wo,gR]))) (eZ _ _) h
   |if1 a b =>
    rw[R.nw]at j;simp only[bZ]at h;exact gb (E _ _ j.1 z m) (q _ _ m) (fun v t y u d e=>fw (c6 d) (fw (gb (b:=0) (E _ _ j.2 d e) (q _ _ e) (fun v t y u d _=>c6 d) (qi _)) (c6 d))) (eZ _ _) h
   |if2 a b b2 =>
    rw[R.nw]at j;simp only[bZ]at h;exact gb (E _ _ j.1 z m) (q _ _ m) (fun v t y u d e=>fw (c6 d) (fw (fun h=>(gb (b:=0) (E _ _ j.2.1 d e) (q _ _ e) (fun v t y u d _=>c6 d) (qi _) h).mono (Nat.le_max_left _ _)) (fun h=>(gb (b:=0) (E _ _ j.2.2 d e) (q _ _ e) (fun v t y u d _=>c6 d) (qi _) h).mono (Nat.le_max_right _ _)))) (eZ _ _) h
   |while_ a b=>grind[R.nw]
   |ret a =>
    exact zaO
   |do_ a =>
    exact zct
   |block l =>
    rw[R.nw]at j;simp only[bZ]at h;exact gb (b:=0) (H _ _ · · j z m ·) (fun v t h=>(W _ _ _ _ h).2 m) (fun v t y u d _=>c6 d) (qi _) h
  ·cases l with
   |nil=>grind[pd,c6]
   |cons r l =>
    rw[R.uO]at j;simp only[pd]at h;exact gb (E _ _ j.1 z m) (q _ _ m) (fun v t y u d e=>fw (c6 d) (G _ _ _ _ _ j.2 d e)) (eZ _ _) h
  ·cases l with
   |nil=>grind[n8,c6]
   |cons r l =>
    rw[R.uO]at j;simp only[n8]at h;exact gb (E _ _ j.1 z m) (q _ _ m) (fun v t y u d e=>fw (c6 d) (H _ _ _ _ j.2 d e)) (eZ _ _) h
end
end Go.Mn
namespace Go.Im
open Go.Xp Go.Sp Go.Mn
def qL(p:Src)(Q:List Int):M:=⟨Q,[],List.replicate p.ax.length 0,p.aq.map fun a=>List.replicate a.size.toNat 0,0,0,0,1,List.replicate 40 0,false,0⟩
def lR(A:Int):Nat:=(min (max A 0) 20000).toNat
def oU(p:Src)(l:List T)(Q:List Int)(F:Nat):M:=Gz qX F (qY p l) (qY p l (bF p eU).toNat) (qL p Q)
def sQ(p:Src)(Q:List Int)(A:Int):ja:=if cw p=true then(match j3 p.ah p.ak 0 []with|some (l,_)=>xb (oU p l Q (lR A))|none=>Qj)else Qj
def A8{p:Src}{l:List T}(h:Good p l)(hg:cw p=true)(Q:List Int)(A:Int):sQ p Q A=xb (oU p l Q (lR A)):=by
 unfold sQ;rw[ae hg,h.st.xz]
end Go.Im
namespace Go.Im
open Go.Xp Go.Sp
def pb(p:Src)(n:Nd):List Int:=if n.ab=4/\0<=bF p n.s then[bF p n.s]else[]
mutual
def jb(p:Src):T->List Int
 |.mk n l=>pb p n++eC p l
def eC(p:Src):List T->List Int
 |[]=>[]
 |t::r=>jb p t++eC p r
end
theorem We(p:Src)(t:T):jb p t=pb p t.n++eC p t.au:=by cases t;rfl
def gH(p:Src)(s:List Int)(_:Nat)(t:T)(_:List ai):List Int:=s++pb p t.n
mutual
def SA(p:Src):∀(t:T)(a:Nat)(s:List Int)(ls:List ai),(fq (gH p) t a s ls).1=s++jb p t
 |.mk n l,a,s,ls=>by
  rw[fq,jb];simp only;rw[Fo p l];unfold gH
  grind[pb,T.n,eC]
def Fo(p:Src):∀(l:List T)(a:Nat)(s:List Int)(ls:List ai),(dk (gH p) l a s ls).1=s++eC p l
 |[],a,s,ls=>by rw[dk,eC,fV]
 |t::r,a,s,ls=>by rw[dk,Fo p r,SA p t,eC,gS]
end
section
variable(p:Src)
theorem B3(n:Nd):(pb p n).length<=1:=by grind[pb]
theorem M3:∀(N:Nat)(t:T),bc t<=N->(jb p t).length<=bc t:=by
 intro N
 induction N with
 |zero=>grind[iO]
 |succ N O =>
  intro t h
  have c:∀l:List T,aR l<=N->(eC p l).length<=aR l:=by
   intro l
   induction l with
   |nil=>grind[eC]
   |cons u l d =>
    grind[aR,eC]
  grind[fC,B3,We,bf]
theorem E8(l:List T):(eC p l).length<=aR l:=by
 induction l with
 |nil=>simp[eC]
 |cons u l O =>
  have:=M3 p _ u (aQ _)
  grind[eC,aR]
theorem M1{l:List T}{k:Nat}{t:T}(h:l[k]?=some t):eC p (l.take (k+1))=eC p (l.take k)++jb p t:=by
 have M:l.take (k+1)=l.take k++[t]:=by grind[dc]
 have:∀a b:List T,eC p (a++b)=eC p a++eC p b:=by
  intro a b
  induction a with
  |nil=>rfl
  |cons u a O=>simp[eC,O]
 grind[eC,jb]
theorem zS(s:ai):bF p s<(p.ak.length:Int):=by
 unfold bF bM
 grind[List.findIdx?_eq_some_iff_getElem]
theorem T9(n:Nd):∀x∈pb p n,0<=x/\x<(p.ak.length:Int):=by
 intro x hx
 simp_all[pb,mem_singleton,zS]
end
mutual
def M4(p:Src):∀(t:T),∀x∈jb p t,0<=x/\x<(p.ak.length:Int)
 |.mk n l,x,hx=>by
  rw[jb,List.mem_append]at hx
  rcases hx with h|h
  ·exact T9 p n x h
  ·exact IV p l x h
def IV(p:Src):∀(l:List T),∀x∈eC p l,0<=x/\x<(p.ak.length:Int)
 |[],x,hx=>by grind[eC]
 |t::r,x,hx=>by
  rw[eC,List.mem_append]at hx
  rcases hx with h|h
  ·exact M4 p t x h
  ·exact IV p r x h
end
def iJ(l:List Int):Prop:=l.Pairwise (· < ·)
def Bj:∀{a b:List Int},iJ a->iJ b->(∀x,x∈a↔x∈b)->a=b
 |[],[],_,_,_=>rfl
 |[],y::b,_,_,h=>by have:=(h y).2 ze6;grind
 |x::a,[],_,_,h=>by have:=(h x).1 ze6;grind
 |x::a,y::b,A,v,h=>by
  unfold iJ at A v;rw[pairwise_cons]at A v
  have W:x=y:=by
   have M:=(h x).1 ze6;have w:=(h y).2 ze6
   grind
  subst W
  have:a=b:=Bj A.2 v.2 fun z=>by
   grind
  rw[this]
def sy(n:Int):List Int->List Int
 |[]=>[n]
 |x::r=>if n<x then n::x::r else x::sy n r
def jP(l:List Int)(n:Int):List Int:=if l.contains n=true then l else sy n l
theorem z7{n:Int}:∀{l:List Int}{x:Int},x∈sy n l↔x=n\/x∈l
 |[],x=>by simp[sy]
 |y::r,x=>by
  rw[sy];split
  ·simp
  ·rw[List.mem_cons,z7,List.mem_cons]
   grind
theorem zt{n:Int}:∀{l:List Int},iJ l->n ∉ l->iJ (sy n l)
 |[],_,_=>by simp[sy,iJ]
 |y::r,h,T=>by
  unfold iJ at h |-;rw[pairwise_cons]at h;rw[sy];rw[List.mem_cons,not_or]at T;split
  ·grind[pairwise_cons]
  ·rename_i M;rw[pairwise_cons];refine⟨fun z m=>?_,zt h.2 T.2⟩
   grind[z7]
theorem Gp{l:List Int}{n x:Int}:x∈jP l n↔x=n\/x∈l:=by
 grind[l9,z7,jP]
def Ic{l:List Int}{n:Int}(h:iJ l):iJ (jP l n):=by
 grind[zt,l9,iJ,jP]
theorem z6{n:Int}:∀{l:List Int},(sy n l).length=l.length+1
 |[]=>rfl
 |y::r=>by
  rw[sy];split
  ·simp
  ·rw[length_cons,z6,length_cons]
def RE{l:List Int}{n:Int}:(jP l n).length<=l.length+1:=by
 grind[z6,jP]
def pn(n:Int)(st:List Int × Bool)(x:Int):List Int × Bool:=if(!st.2&&decide (n<x))=true then(st.1++[n]++[x],true)else(st.1++[x],st.2)
def kF(l:List Int)(n:Int)(k:Nat):List Int × Bool:=(l.take k).foldl (pn n) ([],false)
def DZ{l:List Int}{n:Int}{k:Nat}{x:Int}(h:l[k]?=some x):kF l n (k+1)=pn n (kF l n k) x:=by
 grind[dc,kF,pn]
def Dk(n:Int):∀(l H:List Int),l.foldl (pn n) (H,true)=(H++l,true)
 |[],H=>by simp
 |x::r,H=>by
  rw[foldl_cons,show pn n (H,true) x=(H++[x],true) by rfl,Dk n r];simp
def Fw(n:Int):∀(l H:List Int),(if(l.foldl (pn n) (H,false)).2=true then(l.foldl (pn n) (H,false)).1 else(l.foldl (pn n) (H,false)).1++[n])=H++sy n l
 |[],H=>by rfl
 |x::r,H=>by
  rw[foldl_cons,sy]
  by_cases h:n<x
  ·rw[show pn n (H,false) x=(H++[n]++[x],true) by simp[pn,h],Dk,ae h];simp
  ·rw[show pn n (H,false) x=(H++[x],false) by simp[pn,h],D h,Fw n r];simp
def RF(l:List Int)(n:Int)(h:l.contains n=false):(if(kF l n l.length).2=true then(kF l n l.length).1 else(kF l n l.length).1++[n])=jP l n:=by
 unfold kF jP
 simp_all[dx,Fw,D]
def Gq(l:List Int)(n:Int)(k:Nat):(kF l n k).1.length<=k+1/\((kF l n k).2=false->(kF l n k).1.length<=k):=by
 induction k with
 |zero=>simp[kF]
 |succ k O =>
  rcases Nat.lt_or_ge k l.length with h|h
  ·rw[DZ (cq h)]
   grind[pn,kF]
  grind[kK,kF]
def pC(l:List Int):List Int:=l.foldl jP []
def yb:∀(l H:List Int),iJ H->iJ (l.foldl jP H)/\∀x,x∈l.foldl jP H↔x∈H\/x∈l
 |[],H,h=>⟨h,fun x=>by simp⟩
 |y::r,H,h=>by
  have⟨M,v⟩:=yb r (jP H y) (Ic h)
  grind[Gp]
def sB(l:List Int):iJ (pC l):=(yb l [] List.Pairwise.nil).1
def oW{l:List Int}{x:Int}:x∈pC l↔x∈l:=by
 have:=(yb l [] List.Pairwise.nil).2 x
 grind[pC]
def xc:∀{l:List Int}{a b:Int},iJ l->(∀x∈l,a<=x/\x<b)->a<=b->(l.length:Int)<=b-a
 |[],a,b,_,_,h=>by grind
 |x::r,a,b,h,w,v=>by
  unfold iJ at h;rw[pairwise_cons]at h;have hx:=w x ze6;have:=xc (l:=r) (a:=x+1) (b:=b) h.2 (fun y J=>by grind) aI
  grind
def x8{l:List Int}{n:Nat}(h:l.Nodup)(w:∀x∈l,0<=x/\x<(n:Int)):l.length<=n:=by
 have M:(pC l).length=l.length:=by
  have c:∀(l H:List Int),l.Nodup->(∀x∈l,x ∉ H)->(l.foldl jP H).length=H.length+l.length:=by
   intro l
   induction l with
   |nil=>simp
   |cons y r O =>
    intro H M v;rw[nodup_cons]at M
    have J:H.contains y=false:=by
     grind
    rw[foldl_cons,O _ M.2 fun x hx G=>?_]
    ·unfold jP
     grind[z6]
    grind[Gp,ew]
  grind[pC]
 have v:=xc (sB l) (a:=0) (b:=n) (fun x hx=>w x (oW.1 hx)) aI;omega
def cQ(p:Src)(t:T):List Int:=pC (jb p t)
section
variable(p:Src)(t:T)
def oP:iJ (cQ p t):=sB _
def nV:∀x∈cQ p t,0<=x/\x<(p.ak.length:Int):=fun x hx=>M4 p t x (oW.1 hx)
def zf:(cQ p t).length<=p.ak.length:=by
 have:=xc (oP p t) (a:=0) (b:=p.ak.length) (nV p t) aI;omega
end
def tY{l:List Int}(h:iJ l):l.Nodup:=by
 unfold iJ at h;exact h.imp (fun{a b}v=>by omega)
def da(l ks:List Int):List Int:=ks.foldl (fun l k=>if l.contains k=true then l else l++[k]) l
def C0(l:List Int)(ks:List Int)(k:Nat)(x:Int)(h:ks[k]?=some x):da l (ks.take (k+1))=if(da l (ks.take k)).contains x=true then da l (ks.take k)else da l (ks.take k)++[x]:=by
 grind[dc,da]
theorem jL:∀{ks l:List Int}{x:Int},x∈da l ks↔x∈l\/x∈ks
 |[],l,x=>by simp[da]
 |k::r,l,x=>by
  have:=@jL r (if l.contains k=true then l else l++[k]) x
  grind[da]
def sI:∀{ks l:List Int},l.Nodup->(da l ks).Nodup
 |[],l,h=>h
 |k::r,l,h=>by
  have T:(if l.contains k=true then l else l++[k]).Nodup:=by
   grind
  exact sI (ks:=r) T
def wv:∀(ks l:List Int),∃m,da l ks=l++m
 |[],l=>⟨[],by simp[da]⟩
 |k::r,l=>by
  have e:da l (k::r)=da (if l.contains k=true then l else l++[k]) r:=rfl;rw[e];have⟨m,G⟩:=wv r (if l.contains k=true then l else l++[k])
  grind
def mA(cs:Int->List Int):Nat->Nat->List Int->List Int
 |0,_,l=>l
 |f+1,i,l=>match l[i]? with|none=>l|some x=>mA cs f (i+1) (da l (cs x))
def sJ(cs:Int->List Int)(n:Nat)(Q:∀x,∀y∈cs x,0<=y/\y<(n:Int)) :
  ∀(f i:Nat)(L:List Int),L.Nodup->(∀y∈L,0<=y/\y<(n:Int))->n+1<=f+i ->
   (∀j x,j<i->L[j]?=some x->∀y∈cs x,y∈L) ->
   ∀x∈mA cs f i L,∀y∈cs x,y∈mA cs f i L
 |0,i,L,T,r,s,G=>by
  intro x hx y J;rw[mA]at hx |-;have⟨j,M,R⟩:=List.mem_iff_getElem.1 hx;have:=x8 T r;exact G j x aI (by rw[cq M,R]) y J
 |f+1,i,L,T,r,s,G=>by
  cases t:L[i]? with
  |none =>
   have v:mA cs (f+1) i L=L:=by rw[mA,t]
   rw[v];intro x hx y J;have⟨j,M,R⟩:=List.mem_iff_getElem.1 hx;have:=nE t;exact G j x aI (by rw[cq M,R]) y J
  |some o =>
   have v:mA cs (f+1) i L=mA cs f (i+1) (da L (cs o)):=by rw[mA,t]
   rw[v];refine sJ cs n Q f (i+1) _ (sI T) (fun y J=>?_) aI (fun j x S k y J=>?_)
   ·rcases jL.1 J with N|N
    ·exact r y N
    ·exact Q o y N
   ·have l:i<L.length:=by
     rcases Nat.lt_or_ge i L.length with h|h
     ·exact h
     ·rw[List.getElem?_eq_none h]at t;cases t
    have⟨m,H⟩:=wv (cs o) L
    have M:j<L.length:=by omega
    rw[H,l7 M]at k
    rcases Nat.lt_or_ge j i with h|h
    ·exact jL.2 (.inl (G j x h k y J))
    ·have:j=i:=by omega
     subst this;rw[t]at k;cases k;exact jL.2 (.inr J)
def rZ(cs:Int->List Int)(S:Int->Prop)(T:∀x,S x->∀y∈cs x,S y) :
  ∀(f i:Nat)(L:List Int),(∀x∈L,S x)->∀x∈mA cs f i L,S x
 |0,i,L,h=>by rw[mA];exact h
 |f+1,i,L,h=>by
  rw[mA];split
  ·exact h
  ·rename_i o j
   refine rZ cs S T f (i+1) _ fun x hx=>?_
   rcases jL.1 hx with M|M
   ·exact h x M
   ·exact T o (h o (bB j)) x M
theorem vn(cs:Int->List Int):∀(f i:Nat)(L:List Int),∀x∈L,x∈mA cs f i L
 |0,i,L=>fun x h=>by rw[mA];exact h
 |f+1,i,L=>fun x h=>by
  rw[mA];split
  ·exact h
  ·exact vn cs f (i+1) _ x (jL.2 (.inl h))
def od(F:Int->List Int)(a b:Int):Bool:=a==b ||((F a).contains b&&(F b).contains a)
def EW(F:Int->List Int):Prop:=∀a b,b∈F a->∀c∈F b,c∈F a
theorem D2{F:Int->List Int}{a b:Int}:od F a b=true↔a=b\/(b∈F a/\a∈F b):=by
 unfold od;rw[Bool.or_eq_true,aU,beq_iff_eq,l9,l9]
def yV:∀{a b:List Int},a.Nodup->(∀x∈a,x∈b)->a.length<=b.length
 |[],b,_,_=>by simp
 |x::a,b,T,q=>by
  rw[nodup_cons]at T;have hx:x∈b:=q x ze6
  have h:=yV (a:=a) (b:=b.erase x) T.2 fun y J=>by
   grind
  grind
def oS(F:Int->List Int)(b6:List Int)(f:Int):Bool:=(F f).all (fun g=>b6.contains g ||od F f g)&&!b6.contains f
section
variable{F:Int->List Int}
theorem xN{b6:List Int}{f:Int}:oS F b6 f=true↔(∀g∈F f,g∈b6\/od F f g=true)/\f ∉ b6:=by
 simp[oS,od]
theorem Dl(o:EW F){n:Nat}(hn:∀a,(F a).Nodup)(r:∀a,∀y∈F a,0<=y/\y<(n:Int))(b6:List Int) :
  ∀(N:Nat)(f:Int),0<=f->f<(n:Int)->f ∉ b6->(da (F f) [f]).length<=N->∃g,0<=g/\g<(n:Int)/\oS F b6 g=true
 |0,f,M,v,w,O=>by
  grind[da,jL,List.length_pos_of_mem]
 |N+1,f,M,v,w,O=>by
  by_cases s:oS F b6 f=true
  ·grind
  have A:∃x∈F f,x ∉ b6/\od F f x≠true:=by
   grind[xN]
  have⟨x,hx,S,H⟩:=A;have C:=r f x hx
  have z:f ∉ da (F x) [x]:=by
   grind[jL,D2,mem_singleton]
  have T:(f::da (F x) [x]).length<=(da (F f) [f]).length:=by
   refine yV (List.nodup_cons.2 ⟨z,sI (hn x)⟩) fun y J=>?_
   rcases ln J with h|h
   ·grind[jL]
   ·rcases jL.1 h with h|h
    ·exact jL.2 (.inl (o f x hx y h))
    grind[mem_singleton,jL]
  simp only[length_cons]at T;exact Dl o hn r b6 N x C.1 C.2 S aI
theorem QH(o:EW F){n:Nat}(hn:∀a,(F a).Nodup)(r:∀a,∀y∈F a,0<=y/\y<(n:Int)){b6:List Int}(T:b6.length<n) :
  ∃f:Nat,f<n/\oS F b6 (f:Int)=true:=by
 have A:∃f:Nat,f<n/\(f:Int) ∉ b6:=by
  refine Classical.byContradiction fun S=>?_
  have:((List.range n).map fun i=>((i:Nat):Int)).length<=b6.length:=by
   refine yV ?_ fun x hx=>?_
   ·grind[List.nodup_range]
   grind
  grind
 have⟨f,s,R⟩:=A;have⟨g,M,v,w⟩:=Dl o hn r b6 _ (f:Int) aI aI R (aQ _);exact⟨g.toNat,by omega,by grind⟩
end
def Ad(F:Int->List Int)(n:Nat)(b6:List Int):Option Nat:=(List.range n).find? fun f=>oS F b6 (f:Int)
def Ae(F:Int->List Int)(n:Nat)(b6:List Int):List Int:=match Ad F n b6 with|some f=>b6++[(f:Int)]|none=>b6
def dL(F:Int->List Int)(n:Nat):Nat->List Int
 |0=>[]
 |k+1=>Ae F n (dL F n k)
theorem sb{F:Int->List Int}(o:EW F){n:Nat}(hn:∀a,(F a).Nodup)(r:∀a,∀y∈F a,0<=y/\y<(n:Int)){b6:List Int}(T:b6.length<n) :
  ∃f:Nat,Ad F n b6=some f/\f<n/\oS F b6 (f:Int)=true/\(∀g,g<f->oS F b6 (g:Int)=false)/\Ae F n b6=b6++[(f:Int)]:=by
 grind[QH,List.find?_eq_none,List.mem_of_find?_eq_some,List.find?_range_eq_some,Ad,oS,Ae]
theorem pS{F:Int->List Int}(o:EW F){n:Nat}(hn:∀a,(F a).Nodup)(r:∀a,∀y∈F a,0<=y/\y<(n:Int)):∀k,k<=n->(dL F n k).length=k
 |0,_=>rfl
 |k+1,h=>by
  have O:=pS o hn r k aI
  grind[sb,dL]
end Go.Im
namespace Go.Mn
def Dq(k:Nat)(s t:M):Prop:=t.out.length+s.a7<=s.out.length+t.a7+k
theorem Dq.mono{a b:Nat}{s t:M}(h:Dq a s t)(v:a<=b):Dq b s t:=by grind[Dq]
def Dq.of{s t:M}(N:t.out=s.out)(v:t.a7=s.a7):Dq 0 s t:=by grind[Dq]
section
variable{O:Op}{F:Nat}{B:Nat->R}
theorem fh{S β:Type}{a b c:Nat}{x:Option (S × M)}{k:S->M->Option (β × M)}{s:M}{y:β}{u:M}(l:a+b<=c)(hx:∀v t,x=some (v,t)->Dq a s t)(m:∀v t y u,k v t=some (y,u)->Dq b t u)(h:kh x k=some (y,u)):Dq c s u:=by
 have⟨v,t,N,w⟩:=cH h
 grind[Dq]
theorem eG{S:Type}{c:Prop}[Decidable c]{k:Nat}{a b:Option (S × M)}{s:M}{y:S}{u:M}(ha:a=some (y,u)->Dq k s u)(v:b=some (y,u)->Dq k s u)(h:(if c then a else b)=some (y,u)):Dq k s u:=by
 grind
theorem I0{S:Type}{k:Nat}{v y:S}{s t u:M}(N:t.out=s.out)(w:t.a7=s.a7)(h:some (v,t)=some (y,u)):Dq k s u:=by grind[Dq]
theorem SC:∀g:Nat,(∀r s v t,ev O F B g r s=some (v,t)->Dq 0 s t)/\(∀r s v t,bZ O F B g r s=some (v,t)->Dq 1 s t)/\(∀l H s v t,pd O F B g l H s=some (v,t)->Dq 0 s t)/\(∀l s v t,n8 O F B g l s=some (v,t)->Dq 0 s t)/\(∀c b s v t,tK O F B g c b s=some (v,t)->Dq 0 s t)
 |0=>⟨fun r s v t h=>(by grind[ev]),fun r s v t h=>(by grind[bZ]),fun l H s v t h=>(by grind[pd]),fun l s v t h=>(by grind[n8]),fun c b s v t h=>(by grind[tK])⟩
 |g+1=>by
  have⟨N,E,z,Q,T⟩:=SC g
  have ab6:∀{m:Type}{v y:m}{t u:M},some (v,t)=some (y,u)->Dq 0 t u:=fun h=>I0 rfl rfl h
  have S:∀{m:Type}{v y:m}{t u:M}(c w:Int),some (v,t.stop c w)=some (y,u)->Dq 0 t u:=fun{_ _ _ t _}c w h=>I0 (t:=t.stop c w) rfl rfl h
  refine⟨fun r s v t h=>?_,fun r s v t h=>?_,fun l H s v t h=>?_,fun l s v t h=>?_,fun c b s v t h=>?_⟩
  ·grind[ev,Dq]
  ·cases r with
   |num n=>grind[bZ,Dq]
   |loc k=>grind[bZ,Dq]
   |glob k=>grind[bZ,Dq]
   |size n=>grind[bZ,Dq]
   |get =>
    simp only[bZ]at h
    grind[Dq]
   |at_ k i=>simp only[bZ]at h;exact fh (a:=0) (b:=0) aI (N _ _) (fun v t y u=>eG ab6 (eG ab6 (S _ _))) h
   |put a =>
    simp only[bZ]at h;refine fh (a:=0) (b:=1) aI (N _ _) (fun v t y u=>eG (fun h=>(ab6 h).mono aI) fun h=>?_) h
    grind[Dq]
   |call f l =>
    simp only[bZ]at h;refine fh (a:=0) (b:=0) aI (z _ _ _) (fun v t y u=>eG ab6 (eG (S _ _) fun h=>?_)) h;have⟨w,x,C,L⟩:=cH h;cases L;have j:Dq 0 (t.enter v) x:=N _ _ _ _ C;exact j
   |un o a=>exact zdG
   |bin o a b=>simp only[bZ]at h;exact fh (a:=0) (b:=0) aI (N _ _) (fun v t y u=>eG ab6 (fh (a:=0) (b:=0) aI (N _ _) (fun v t y u=>eG ab6 (eG (S _ _) ab6)))) h
   |and_ a b=>exact zbP
   |or_ a b=>exact zbP
   |setL k a=>exact zbo
   |setG k a=>exact zbo
   |putA k i v=>simp only[bZ]at h;exact fh (a:=0) (b:=0) aI (N _ _) (fun v t y u=>eG ab6 (eG (fh (a:=0) (b:=0) aI (N _ _) (fun v t y u=>eG ab6 (fun h=>by cases h;exact Dq.of rfl rfl))) (S _ _))) h
   |if1 c b=>simp only[bZ]at h;exact fh (a:=0) (b:=0) aI (N _ _) (fun v t y u=>eG ab6 (eG (fh (a:=0) (b:=0) aI (N _ _) (fun v t y u=>ab6)) ab6)) h
   |if2 c b A=>simp only[bZ]at h;exact fh (a:=0) (b:=0) aI (N _ _) (fun v t y u=>eG ab6 (eG (fh (a:=0) (b:=0) aI (N _ _) (fun v t y u=>ab6)) (fh (a:=0) (b:=0) aI (N _ _) (fun v t y u=>ab6)))) h
   |while_ c b=>simp only[bZ]at h;exact fh (a:=0) (b:=0) aI (T _ _ _) (fun v t y u=>ab6) h
   |ret a=>exact zbo
   |do_ a=>exact zdG
   |block l=>simp only[bZ]at h;exact fh (a:=0) (b:=0) aI (Q _ _) (fun v t y u=>ab6) h
  ·cases l with
   |nil=>grind[pd]
   |cons r l=>simp only[pd]at h;exact fh (a:=0) (b:=0) aI (N _ _) (fun v t y u=>eG ab6 (z _ _ _ _ _)) h
  ·cases l with
   |nil=>grind[n8]
   |cons r l=>simp only[n8]at h;exact fh (a:=0) (b:=0) aI (N _ _) (fun v t y u=>eG ab6 (Q _ _ _ _)) h
  ·simp only[tK]at h;exact fh (a:=0) (b:=0) aI (N _ _) (fun v t y u=>eG ab6 (eG ab6 (fh (a:=0) (b:=0) aI (N _ _) (fun v t y u=>eG ab6 (T _ _ _ _ _))))) h
end
end Go.Mn
namespace Go.Im
open Go.Xp Go.Sp Go.Mn
structure nG(p:Src)(F:Nat)(s:M):Prop where
 cN:s.cN.length=p.ax.length
 cells:s.cells.length=p.aq.length
 rows:∀(k:Nat)a,p.aq[k]?=some a->((row s k).length:Int)=a.size
 locs:40<=s.locs.length
 a7:s.a7<=F
 out:s.out.length<=s.a7
def nG.Tv{p:Src}{F:Nat}{s t:M}(h:nG p F s)(q:EV s t)(N:t.a7<=F)(v:Dq 0 s t):nG p F t :=
 ⟨q.cN.trans h.cN,q.cells.trans h.cells,fun k a z=>by rw[q.rows];exact h.rows k a z,by rw[q.locs];exact h.locs,N,by have:=h.out;grind[Dq]⟩
theorem nG.ev{p:Src}{O:Op}{F:Nat}{B:Nat->R}{g:Nat}{r:R}{s t:M}{v:Int}(h:nG p F s)(S:ev O F B g r s=some (v,t)):nG p F t :=
 h.Tv ((vA (Go.Mn.Tv F) g).1 r s v t S) (((vA (Z6 F) g).1 r s v t S).2 h.a7) ((SC g).1 r s v t S)
theorem nG.next{p:Src}{F:Nat}{s:M}(h:nG p F s)(S:¬F<=s.a7):nG p F { s with a7:=s.a7+1 } :=
 ⟨h.cN,h.cells,h.rows,h.locs,by grind,by have:=h.out;grind⟩
theorem EV.ev{O:Op}{F:Nat}{B:Nat->R}{g:Nat}{r:R}{s t:M}{v:Int}(S:ev O F B g r s=some (v,t)):EV s t:=(vA (Go.Mn.Tv F) g).1 r s v t S
end Go.Im
