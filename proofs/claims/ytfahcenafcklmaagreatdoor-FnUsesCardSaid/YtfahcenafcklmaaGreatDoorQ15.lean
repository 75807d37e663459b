/- Part 15 of proofs that are told in their last texts. -/
import Derived.Test.YtfahcenafcklmaaGreatDoorQ12
import Derived.Test.YtfahcenafcklmaaGreatDoorQ6
import Derived.Test.YtfahcenafcklmaaGreatDoorQ8
import Derived.Test.YtfahcenafcklmaaGreatDoorQ10
open List (length_nil nil_append take_succ_cons)
set_option linter.unusedVariables false
set_option linter.unusedSimpArgs false
set_option maxRecDepth 100000
set_option maxHeartbeats 2000000
namespace Go
theorem za9 {A:Prop} (s:A:=by refine wu ?_;refine bm ?_;refine GW.wk (Wk.jY (t:=7) rfl rfl rfl (by simp [chunk])) ?_;refine lp ?_;exact zah):A:=s
theorem zcx {A:Prop} (s:A:=by refine dh func43 ntmps43 ?_;refine GW.wk (Wk.gK 9 1) ?_;exact zaw):A:=s
end Go
namespace Go.Xg
open Go.RowKit Go.Xw Go.Proofs Tryz Go.Im
open GV (U)
attribute [local irreducible] GW GL GO YG GC GA aU aW
theorem YH (l:List ae) (s:ae) (hn:l.length<=1099511627776):GF prog 219 [strs l,.v (sv s)] [] (.v (ii (yu l s))) []:=by
 have dS:(l.map fun s=>[GV.v (sv s)]).length=l.length:=by simp
 unfold yu;refine ai func219 ntmps219 ?_;refine GW.range (l.map fun s=>[GV.v (sv s)]).length (fun k fr Γ=>fr=[strs l,.v (sv s),U,U,U,U,U,strs l,.v (ii ((l.map fun s=>[GV.v (sv s)]).length:Int)),.v (ii (k:Nat)),U,U,U,U,U,U,U,U,U]/\Γ=[]/\(l.take k).all (fun y=>!(y==s))=true) ?_ X ?_ ?_ ?_
 ·exact lN
 ·exact jn
 ·rintro k _ _ au ⟨rfl,rfl,bj⟩;rw [dS] at au;obtain ⟨x,dE⟩:∃ x,l[k]?=some x:=⟨l[k],by simp [au]⟩
  have hr:(l.map fun s=>[GV.v (sv s)])[k]?=some [.v (sv x)]:=by rw [bp,dE];rfl
  have cl:=od (f:=fun y:ae=>y==s) dE
  have hit:=fun h0=>nQ (f:=fun y:ae=>y==s) dE h0 bj
  cases hb:(x==s) with
  | true =>
   rw [hit hb];exact ay
  | false =>
   exact zep
 ·rintro _ _ ⟨rfl,rfl,bj⟩;exact zbk
end Go.Xg
set_option maxHeartbeats 4000000
namespace Go.Xg
open Go.RowKit Go.Xw Go.Proofs Tryz Go.Im
open GV (U)
open Go.Xp (T aQ aB eI)
attribute [local irreducible] GW GL GO YG GC GA aU aW
theorem SI:∀ (N:Nat) (t:T),aQ t<=N->∀ (out:List ae) (ad:Option Addr) (cp:Nat),out.length+aQ t<=8388608 ->
  GC prog 165 [.v (.slice ad out.length cp),.agg (cT t)] [.vech 9 1 (br out) (.slice ad out.length cp)] fun g Δ=>∃ iL iM,g=.v (.slice iL (out++dI t).length iM)/\Δ=[.vech 9 1 (br (out++dI t)) (.slice iL (out++dI t).length iM)]:=by
 intro N
 induction N with
 | zero=>intro t h;exact zcF
 | succ N ih =>
 intro t hN out ad cp gW
 cases t with
 | mk n l =>
 rw [Go.Xp.aQ] at hN gW;have nS:=eI l;have eH:(ba l).length=l.length:=bh l;rw [dI];refine ai func165 ntmps165 ?_;refine GW.range (ba l).length (fun k fr Γ=>∃ ad cp o,fr=[.v (.slice ad o.length cp),U,U,.loc 1 0,U,U,U,U,.sl 6 (ba l),.v (ii ((ba l).length:Int)),.v (ii (k:Nat)),U,U,U,U,U,U,U,U,U,U,U,U,U,U,U,U,U,U]/\Γ=[.vech 9 1 (br o) (.slice ad o.length cp),.box 86 (cT (.mk n l))]/\o=out++dG (l.take k)) ?_ X ?_ ?_ ?_
 ·exact ⟨_,_,Wk.aH ao,ad,cp,out,rfl,rfl,by simp [dG]⟩
 ·rintro k _ _ ⟨ad,cp,o,rfl,rfl,_⟩;exact dr
 ·rintro k _ _ au ⟨ad,cp,o,rfl,rfl,ho⟩;rw [eH] at au;obtain ⟨u,hu⟩:∃ u,l[k]?=some u:=⟨l[k],by simp [au]⟩;have hr:=dB hu;have dj:=ku hu
  have hlen:o.length<=out.length+aB (l.take k):=by rw [ho,aL];have:=ja (l.take k);omega
  have hi:=ih u X o ad cp X
  have kU:out++dG (l.take (k+1))=o++dI u:=by rw [Di hu,ho,eF]
  rw [kU];refine D ?_;refine bA [0] hi ?_;rintro _ _ ⟨iL,iM,rfl,rfl⟩;refine zas ?_;exact ⟨rfl,rfl,_,_,(Wk.cut (n:=2) (c6 rfl) rfl).trans (Wk.aH ao),iL,iM,_,rfl,rfl,rfl⟩
 ·rintro _ _ ⟨ad,cp,o,rfl,rfl,ho⟩;rw [eH,c7] at ho
  have hlen:o.length<=out.length+aB l:=by rw [ho,aL];have:=ja l;omega
  have vn:=mO o;rw [<-eF,<-ho];clear ho ih;refine bc ?_
  cases hv:(n.kind==13) with
  | false =>
   rw [ab zgv,dN];refine zdO ?_;exact la (n:=1) rfl cB rfl (c6 rfl) rfl rfl ⟨ad,cp,rfl,rfl⟩
  | true =>
   rw [ah zgv];refine D ?_;refine za4 ?_;intro oK oN;refine zaq ?_;refine gL ?_;exact la (n:=1) rfl cB rfl (c6 rfl) rfl rfl ⟨oK,oN,by show GV.v (.slice oK ((br o).length+1) oN)=_;simp [br],by show [Ob.vech _ 1 (br o++[[.v (sv n.s)]]) (.slice oK ((br o).length+1) oN)]=_;simp [br]⟩
end Go.Xg
namespace Go.Im
open Go.Xp Go.Sp
theorem CN (names:List ae) (u:T):∀ (l:List T) (known:List ae),jI names (l++[u]) known=jI names l known++[oA names u (known++dG l)]
 | [],known=>by simp [jI,dG]
 | t::l,known=>by rw [List.cons_append,jI,CN names u l,jI,dG,eF];rfl
theorem LM (names:List ae) {l:List T} {k:Nat} {u:T} (h:l[k]?=some u) (known:List ae):jI names (l.take (k+1)) known=jI names (l.take k) known++[oA names u (known++dG (l.take k))]:=by
 rw [dk,h];exact CN names u _ known
def PQ (names:List ae) (n:Nd) (known:List ae):Int:=if (n.kind=2\/n.kind=7)/\known.contains n.s=true then yu names n.s+1 else n.n
theorem Ux {names:List ae} {n:Nd} {known:List ae} (h:n.kind=13):qB names n known=⟨n.kind,n.at_,yu names n.s+1,n.s,n.kids⟩:=by unfold qB;rw [ah h]
theorem Uy {names:List ae} {n:Nd} {known:List ae} (h:¬ n.kind=13):qB names n known=⟨n.kind,n.at_,PQ names n known,n.s,n.kids⟩:=by
 unfold qB PQ;rw [ab h];split <;> rfl
theorem ZR (names:List ae) (s:ae) : -1<=yu names s/\yu names s<=(names.length:Int):=by
 unfold yu du
 cases h:names.findIdx? (fun x=>x==s) with
 | none=>exact zcb
 | some i =>
  rw [List.findIdx?_eq_some_iff_getElem] at h;obtain ⟨h,_⟩:=h;exact zcb
end Go.Im
namespace Go.Xg
open Go.RowKit Go.Xw Go.Proofs Tryz Go.Im
open GV (U)
open Go.Xp (Nd T aQ aB eI)
attribute [local irreducible] GW GL GO YG GC GA aU aW
theorem SJ (names:List ae) (dF:names.length<=1099511627776):∀ (N:Nat) (t:T),aQ t<=N->∀ (known:List ae),known.length+aQ t<=8388608 ->
  GF prog 166 [strs names,strs known,.agg (cT t)] [] (.tup [.agg (cT (oA names t known)),strs (known++dI t)]) []:=by
 intro N
 induction N with
 | zero=>intro t h;exact zcF
 | succ N ih =>
 intro t hN known gW
 cases t with
 | mk n l =>
 rw [Go.Xp.aQ] at hN gW;have nS:=eI l;have eH:(ba l).length=l.length:=bh l;have hL:=lh known n.s X;have hA:=YH names n.s dF;have hAl:=ZR names n.s;rw [oA,dI];obtain ⟨pn,en⟩:∃ pn,PQ names n known=pn:=⟨_,rfl⟩;have wX:=en;unfold PQ at wX;refine ai func166 ntmps166 ?_;refine GL.Xr (fun fr Γ=>fr=[strs names,strs known,U,U,U,.loc 0 0,.loc 1 0,U,.loc 2 0,U,U,U,U,U,U,U,U,U,U,U,U,U,U,U,U,U,U,U,U,U,U,U,U,U,U,U,U,U,U,U,U,U,U,U,U,U,U,U,U,U,U,U,U,U,U,U,U,U,U,U,U,U,U,U,U,U,U,U,U,U,U,U,U,U,U,U,U,U,U,U,U,U,U,U,U]/\Γ=[.box 86 (cT (.mk n l)),.box 86 zT,.box 86 [.v (ii n.kind),.v (ii n.at_),.v (ii pn),.v (sv n.s),ints n.kids,.v (.slice none 0 0)]]) ?_ ?_
 ·generalize yu names n.s=an at *
  cases q2:(n.kind==2) with
  | true =>
   cases h3:known.contains n.s with
   | true =>
    rw [h3] at hL;rw [ah ⟨.inl (by simpa using q2),h3⟩] at wX;exact zfi
   | false =>
    exact zds
  | false =>
   cases q7:(n.kind==7) with
   | true =>
    cases h3:known.contains n.s with
    | true =>
     rw [h3] at hL;rw [ah ⟨.inr (by simpa using q7),h3⟩] at wX;exact zfi
    | false =>
     exact zds
   | false =>
    rw [ab (by rintro ⟨h | h,_⟩;(· rw [h] at q2;cases q2);rw [h] at q7;cases q7)] at wX;subst wX;exact jx
 ·rintro _ _ ⟨rfl,rfl⟩;refine GW.wk (Wk.Ks (i:=2) (o:=5) 86 6 rfl rfl) ?_;simp only [bX,oset,List.cons_append,nil_append];refine D ?_
  refine GW.range (ba l).length (fun k fr Γ=>∃ rows kn,fr=[strs names,strs kn,U,U,U,.loc 0 0,.loc 1 0,U,.loc 2 0,U,U,U,U,U,U,U,U,U,U,U,U,U,U,U,U,U,U,U,U,U,U,U,U,U,U,U,U,U,U,U,U,U,.sl 6 (ba l),.v (ii ((ba l).length:Int)),.v (ii (k:Nat)),U,U,U,U,U,U,U,U,U,U,U,U,U,U,U,U,U,U,U,U,U,U,U,U,U,U,U,U,U,U,U,U,U,U,U,U,U,U,U,U] /\
   Γ=[.box 86 (cT (.mk n l)),.box 86 zT,.box 86 [.v (ii n.kind),.v (ii n.at_),.v (ii pn),.v (sv n.s),ints n.kids,.vec 3 k],.vec 86 6 0 rows] /\
   rows.length=k/\rows=ba (jI names (l.take k) known)/\kn=known++dG (l.take k)) ?_ X ?_ ?_ ?_
  ·exact ⟨_,_,Wk.aH ao,[],known,rfl,rfl,rfl,by rw [List.take_zero,jI];rfl,by simp [dG]⟩
  ·rintro k _ _ ⟨_,_,rfl,rfl,_⟩;exact dr
  ·rintro k _ _ au ⟨rows,kn,rfl,rfl,r6,bD,oV⟩;rw [eH] at au;obtain ⟨u,hu⟩:∃ u,l[k]?=some u:=⟨l[k],by simp [au]⟩;have hr:=dB hu;have dj:=ku hu
   have hlen:kn.length<=known.length+aB (l.take k):=by rw [oV,aL];have:=ja (l.take k);omega
   have hi:=ih u X kn X
   have kU:known++dG (l.take (k+1))=kn++dI u:=by rw [Di hu,oV,eF]
   have hnr:ba (jI names (l.take (k+1)) known)=rows++[cT (oA names u kn)]:=by
    rw [LM names hu,xD,<-bD,<-oV];first | done | simp only [ba,wa]
   rw [kU,hnr];clear bD oV;generalize oA names u kn=bu at *;refine D ?_;refine V [] hi ?_;refine zby ?_;exact ⟨rfl,rfl,_,_,(Wk.cut (n:=4) (c6 rfl) rfl).trans (Wk.aH ao),_,_,rfl,rfl,by rw [aL,r6];rfl,rfl,rfl⟩
  ·rintro _ _ ⟨rows,kn,rfl,rfl,r6,bD,oV⟩;rw [eH,c7] at bD oV;rw [eH] at r6 |-;rw [<-eF,<-oV]
   have eh:kn.length<=known.length+aB l:=by rw [oV,aL];have:=ja l;omega
   have ad8:kn.length * 16<=140737488355328:=by omega
   refine bc (GW.wk (Wk.Au (i:=2) (o:=5) rfl rfl rfl rfl r6) ?_);simp only [bX,oset];refine GW.Ef (cV:=[strs names,strs kn,U,U,U,.loc 0 0,.loc 1 0,U,.loc 2 0,U,U,U,U,U,U,U,U,U,U,U,U,U,U,U,U,U,U,U,U,U,U,U,U,U,U,U,U,U,U,U,U,U,U,U,U,U,U,U,U,U,U,U,U,U,U,U,U,U,U,U,U,U,U,U,U,U,U,U,U,U,U,U,U,U,U,U,U,U,U,U,U,U,U,U,U]) (aZ:=[.box 86 (cT (.mk n l)),.box 86 zT,.box 86 [.v (ii n.kind),.v (ii n.at_),.v (ii pn),.v (sv n.s),ints n.kids,.sl 6 rows],.vec 86 6 l.length rows]) ao rfl ?_;subst bD;clear oV
   cases hv:(n.kind==13) with
   | false =>
    rw [ab zgv,dN,Uy zgv,en];refine D ?_;refine lp ?_;exact zah
   | true =>
    rw [ah zgv,Ux zgv]
    have Ez:(kn.map fun s=>[GV.v (sv s)]).length=kn.length:=by simp
    have b6:strs (kn++[n.s])=.sl 1 ((kn.map fun s=>[GV.v (sv s)])++[[.v (sv n.s)]]):=by simp
    rw [b6];have eP:oG (kn.map fun s=>[GV.v (sv s)])=true:=rb kn;generalize yu names n.s=an at *;refine D ?_;refine V [] hA ?_;refine aM (.q 1 (ax 3 3 (.f 0 (.f 2 (.a 6 (.a 7 (.q 8 .nil))) 6 (.a 2 (.a 7 (.q 8 .nil)))) 6 (.a 0 (.a 2 (.a 7 (.q 8 .nil))))))) ?_;refine aj ?_;refine GO.fork ?_ ?_
    ·refine wv ?_;refine aj ?_;refine GO.fork ?_ ?_
     ·refine OA rfl rfl (GL.D7 rfl rfl rfl rfl eP (by refine ⟨?_,?_⟩;(· rw [Ez];omega);(· rw [Ez];omega)) ?_);rw [Ez];refine cy ?_;simp only [dJ];refine zcg ?_;exact za9
     ·refine zat ?_;refine OA rfl rfl (GL.D7 rfl rfl rfl rfl eP (by refine ⟨?_,?_⟩;(· rw [Ez];omega);(· rw [Ez];omega)) ?_);exact zfK
    ·refine zat ?_;refine wv ?_;refine aj ?_;refine OA rfl rfl (GL.D7 rfl rfl rfl rfl eP (by refine ⟨?_,?_⟩;(· rw [Ez];omega);(· rw [Ez];omega)) ?_);exact zfK
end Go.Xg
namespace Go.Im
open Go.Xp Go.Sp
mutual
theorem Lf (names:List ae):∀ (t:T) (known:List ae),aQ (oA names t known)=aQ t
 | .mk n l,known=>by rw [oA,aQ,aQ,Le names l]
theorem Le (names:List ae):∀ (l:List T) (known:List ae),aB (jI names l known)=aB l
 | [],known=>by rw [jI]
 | t::r,known=>by rw [jI,aB,aB,Lf names t,Le names r]
end
theorem Dp {kinds:List Int} {p:Src} {fn:Int} {name:ae} (h:eG p fn=false):lQ kinds p fn name = -1:=by
 unfold lQ
 by_cases I:fn < 0\/(p.fns.length:Int)<=fn
 ·rw [ah I]
 ·rw [ab I]
  have:de p=false:=by
   cases hg:de p with
   | false=>rfl
   | true =>
    unfold eG at h;rw [hg,decide_eq_true (show (0:Int)<=fn by omega),decide_eq_true (show fn < (p.fns.length:Int) by omega)] at h;cases h
  rw [ah this]
theorem A0 {kinds:List Int} {p:Src} {l:List T} {i:Nat} {f:Go.Sp.Fn} {t:T} {name:ae} (hg:de p=true) (h:kM p l i f t):lQ kinds p (i:Int) name=((mb (iF name kinds) t f.params:Nat):Int):=by
 have hi:=(bB h.gf).1;unfold lQ;rw [ab zgb,ab (by rw [hg];decide),h.good.AB];simp only [iK];rw [h.gf,h.gt]
def iu (s:List ae) (_:Nat) (t:T) (_:List ae):List ae:=s++(if t.n.kind=13 then [t.n.s] else [])
theorem YN (s:List ae) (a:Nat) (t:T) (ls:List ae):(iu s a t ls).length<=s.length+1:=by unfold iu;rw [aL];split <;> simp
mutual
def EU:T->List ae
 | .mk n l=>(if n.kind=13 then [n.s] else [])++q9 l
def q9:List T->List ae
 | []=>[]
 | t::r=>EU t++q9 r
end
mutual
theorem Q8:∀ (t:T) (a:Nat) (s ls:List ae),(fF iu t a s ls).1=s++EU t
 | .mk n l,a,s,ls=>by
  rw [fF,EU];simp only;rw [FN l];unfold iu;show s++_++_=_;rw [eF];rfl
theorem FN:∀ (l:List T) (a:Nat) (s ls:List ae),(cU iu l a s ls).1=s++q9 l
 | [],a,s,ls=>by rw [cU,q9,dN]
 | t::r,a,s,ls=>by rw [cU,FN r,Q8 t,q9,eF]
end
mutual
theorem acp:∀ t:T,ur t->EU t=[]
 | .mk n l,h=>by rw [ur] at h;rw [EU,Kx l h.2,ab h.1];rfl
theorem Kx:∀ l:List T,me l->q9 l=[]
 | [],_=>by rw [q9]
 | t::r,h=>by rw [me] at h;rw [q9,acp t h.1,Kx r h.2];rfl
end
mutual
theorem YZ:∀ t:T,ur t->dI t=[]
 | .mk n l,h=>by rw [ur] at h;rw [dI,DR l h.2,ab h.1];rfl
theorem DR:∀ l:List T,me l->dG l=[]
 | [],_=>by rw [dG]
 | t::r,h=>by rw [me] at h;rw [dG,YZ t h.1,DR r h.2];rfl
end
mutual
theorem Ny:∀ t:T,gZ t->EU t=dI t
 | .mk n l,h=>by
  rw [gZ] at h;rw [EU,dI]
  by_cases hk:n.kind=13
  ·rw [Kx l (h.1 hk),DR l (h.1 hk),ah hk];rfl
  ·rw [ab hk,Kd l h.2.2];simp
theorem Kd:∀ l:List T,et l->q9 l=dG l
 | [],_=>by rw [q9,dG]
 | t::r,h=>by rw [et] at h;rw [q9,dG,Ny t h.1,Kd r h.2]
end
theorem Vx:∀ (l:List T),(q9 l).length<=aB l:=by
 have key:∀ (N:Nat) (t:T),aQ t<=N->(EU t).length<=aQ t:=by
  intro N
  induction N with
  | zero=>intro t h;exact zcF
  | succ N ih =>
   intro t h
   have k2:∀ l:List T,aB l<=N->(q9 l).length<=aB l:=by
    intro l
    induction l with
    | nil=>intro _;simp [q9]
    | cons u l ih2 =>
     intro h;rw [aB] at h;have:=ih u zgb;have:=ih2 zgb;rw [q9,aL,aB];omega
   cases t with
   | mk n l =>
    rw [aQ] at h |-;have:=k2 l zgb;rw [EU,aL];split <;> simp <;> omega
 intro l
 induction l with
 | nil=>simp [q9]
 | cons u l ih =>
  have:=key _ u (aI _);rw [q9,aL,aB];omega
end Go.Im
namespace Go.Xg
open Go.RowKit Go.Xw Go.Proofs Tryz Go.Im
open Go.Xp (T aQ aB)
open Go.Sp (Src)
attribute [local irreducible] GW GL GO YG GC GA aU aW
theorem C8 (p:Src) (i:Nat) (f:Go.Sp.Fn) (t:T) (hk:∀ n∈p.nodes,n.kids.length<=1000000000000) (hf:p.fns[i]?=some f) (qx:f.params.length<=1048576) (hb:0<=f.body) (b6:ek p.nodes f.body.toNat t) (dj:aQ t<=1048576) :
  GC prog 97 [.agg (aq p),.v (ii (i:Nat))] [] fun g Δ=>∃ ad cp,g=.v (.slice ad (f.params++dI t).length cp)/\Δ=[.vech 9 1 (br (f.params++dI t)) (.slice ad (f.params++dI t).length cp)]:=by
 have hr:(p.fns.map aw)[i]?=some (aw f):=by rw [bp,hf];rfl
 have vm:(f.params.map fun s=>[GV.v (sv s)]).length=f.params.length:=by simp
 have eP:=rb f.params;have hS:=K6 p hk f t hb b6
 have hV:=fun ad cp=>SI _ t (aI _) f.params ad cp X
 unfold aw at hr;refine ai func97 ntmps97 ?_;refine aM (.q 1 (.q 2 (ax 4 3 (.a 0 (.a 3 (.a 7 (.a 8 (.q 9 .nil)))))))) ?_;refine aj ?_;refine wv ?_;refine aj ?_;refine OA rfl rfl (GL.D7 rfl rfl rfl rfl eP (by refine ⟨?_,?_⟩;(· rw [vm];omega);(· rw [vm];omega)) ?_);rw [vm];refine GL.tK (t:=14) rfl rfl rfl (by simp [chunk]) ?_;intro ad cp;simp only [dJ];refine zdi ?_;refine aC [] hS ?_;refine OA rfl rfl ?_;refine bA [2] (hV ad cp) ?_;rintro _ _ ⟨iL,iM,rfl,rfl⟩;refine ⟨by simp,?_⟩;refine zaL ?_;refine gL ?_;refine u0 2 rfl cB rfl ?_ ?_
 ·intro x hx;rw [xq hx];rfl
 ·exact zcZ
theorem SK (p:Src) (i:Nat) (f:Go.Sp.Fn) (t:T) (hk:∀ n∈p.nodes,n.kids.length<=1000000000000) (hf:p.fns[i]?=some f) (qx:f.params.length<=1048576) (hb:0<=f.body) (b6:ek p.nodes f.body.toNat t) (dj:aQ t<=1048576) :
  GF prog 100 [.agg (aq p),.v (ii (i:Nat))] [] (.agg (cT (oA (f.params++dI t) t f.params))) []:=by
 have hr:(p.fns.map aw)[i]?=some (aw f):=by rw [bp,hf];rfl
 have hS:=K6 p hk f t hb b6;have hL:=C8 p i f t hk hf qx hb b6 dj;have hvl:=D1 _ t (aI _);have hB:=SJ (f.params++dI t) (by rw [aL];omega) _ t (aI _) f.params X;unfold aw at hr;generalize f.params++dI t=ns at *;generalize oA ns t f.params=bt at *;refine ai func100 ntmps100 ?_;refine aM (.q 0 (.q 1 (ax 3 13 (.f 2 (.f 16 (.f 17 (ax 18 3 (.a 21 (.a 22 (.q 23 .nil)))) 21 (.a 17 (ax 18 3 (.a 22 (.q 23 .nil))))) 21 (.a 16 (.a 17 (ax 18 3 (.a 22 (.q 23 .nil)))))) 21 (.a 2 (.a 16 (.a 17 (ax 18 3 (.a 22 (.q 23 .nil)))))))))) ?_;refine aj ?_;refine GO.fork ?_ ?_
 ·refine OA rfl rfl ?_;refine bA [] hL ?_;rintro _ _ ⟨ad,cp,rfl,rfl⟩;refine ⟨by simp,?_⟩;refine GL.wk (Wk.tS (t:=10) (i:=2) rfl rfl rfl) ?_;refine zdi ?_;refine GO.fork ?_ ?_
  ·refine aC [] hS ?_;refine GO.fork ?_ ?_
   ·exact zfq
   ·refine aj ?_;exact zfq
  ·refine aj ?_;refine aC [] hS ?_;exact zfq
 ·refine aj ?_;refine OA rfl rfl ?_;refine bA [] hL ?_;rintro _ _ ⟨ad,cp,rfl,rfl⟩;refine ⟨by simp,?_⟩;refine GL.wk (Wk.tS (t:=10) (i:=3) rfl rfl rfl) ?_;refine zdi ?_;refine aC [] hS ?_;exact zfq
theorem X8 (p:Src) (hw:b7 p<=1048576) {l:List T} {i:Nat} {f:Go.Sp.Fn} {t:T} (h:kM p l i f t) :
  GF prog 100 [.agg (aq p),.v (ii (i:Nat))] [] (.agg (cT (oA (f.params++dI t) t f.params))) []:=by
 obtain ⟨⟨a1,a2⟩,⟨b1,b2⟩,⟨c1,c2⟩,⟨d1,d2⟩⟩:=dU p;exact SK p i f t (fun n hn=>by have:=(d2 n hn).2;omega) h.gf zgC h.body h.st (by have:=h.sz;omega)
open Go.Xp (Nd)
theorem Zs (p:Src) (a:Nat) (n:Nd) (l:List T) (ls:List ae) (s:List ae) (E1:TypeId) (eb:Option Addr) (ec:Nat) (ad:Option Addr) (cp:Nat) (hn:p.nodes[a]?=some n) (hs:s.length<=1048576000) :
  GC prog 105 [.v (ii (a:Nat)),.v (.slice ad ls.length cp),.box (aq p) 0,.loc 0 0] [.box E1 [.v (.slice eb s.length ec)],.vech 9 1 (br s) (.slice eb s.length ec),.vech 9 1 (br ls) (.slice ad ls.length cp)] fun g Δ=>g=.tup []/\∃ pY pZ,
   Δ=[.box E1 [.v (.slice pY (iu s a (.mk n l) ls).length pZ)],.vech 9 1 (br (iu s a (.mk n l) ls)) (.slice pY (iu s a (.mk n l) ls).length pZ),.vech 9 1 (br ls) (.slice ad ls.length cp)]:=by
 have hr:=iv hn;have nB:=mO s;have e:iu s a (.mk n l) ls=s++(if n.kind=13 then [n.s] else []):=rfl;rw [e];unfold aV at hr;refine dh func105 ntmps105 ?_
 cases I:(n.kind==13) with
 | false =>
  rw [ab zgf,dN];refine D ?_;refine c8 ?_;exact ⟨rfl,eb,ec,rfl⟩
 | true =>
  rw [ah zgf];refine D ?_;refine aM (ax 0 7 (.a 7 (.a 8 (.a 9 .nil)))) ?_;refine zcg ?_;refine OA rfl rfl (GL.nF 1 (news:=[[.v (sv n.s)]]) rfl rfl rfl az rfl rfl (by refine ⟨?_,?_⟩;(· show _+1<=_;omega);(· show (_+1) * _<=_;omega)) ?_);intro oK oN;exact zbK
open GV (U)
open Go.Xp (dy)
def Li (p:Src):GV:=.fn (.func 105) [] [.box (aq p) 0,.loc 0 0]
def XQ (p:Src):GV:=.fn (.func 167) [] [.loc 2 0,.loc 3 0,.box (aq p) 0,.loc 4 0]
def XF (E1:TypeId) (s:List ae) (eb:Option Addr) (ec:Nat):List Ob:=[.box E1 [.v (.slice eb s.length ec)],.vech 9 1 (br s) (.slice eb s.length ec)]
def HO (p:Src) (E1 E2 E3 E4:TypeId) (s:List ae) (ls:List ae) (ad:Option Addr) (cp:Nat) (eb:Option Addr) (ec:Nat):List Ob :=
 [.box E1 [.v (.slice eb s.length ec)],.vech 9 1 (br s) (.slice eb s.length ec),.box E2 [Li p],.box E3 [.v (.slice ad ls.length cp)],.box E4 [XQ p],.vech 9 1 (br ls) (.slice ad ls.length cp)]
theorem Wi (p:Src) (E1 E2 E3 E4:TypeId) (hp:p.nodes.length<=1048576) (eh:∀ n∈p.nodes,n.kids.length<=1099511627776):∀ (N:Nat) (t:T),aQ t<=N->∀ (a:Nat) (s:List ae) (ls:List ae) (ad:Option Addr) (cp:Nat) (eb:Option Addr) (ec:Nat),ek p.nodes a t->ls.length+aQ t<=8388608->s.length+aQ t<=8388608 ->
  GC prog 167 [.v (ii (a:Nat)),.loc 2 0,.loc 3 0,.box (aq p) 0,.loc 4 0] (HO p E1 E2 E3 E4 s ls ad cp eb ec) fun g Δ=>g=.tup []/\∃ iL iM pY pZ,Δ=HO p E1 E2 E3 E4 (fF iu t a s ls).1 (fF iu t a s ls).2 iL iM pY pZ:=by
 intro N
 induction N with
 | zero=>intro t h;exact zcF
 | succ N ih =>
 intro t hN a s ls ad cp eb ec b6 gW sW
 cases t with
 | mk n l =>
 rw [Go.Xp.aQ] at hN gW sW;have Pf:=b6;rw [ek] at b6;obtain ⟨hn,hk,nB⟩:=b6;rw [fF];have hr:=iv hn;have qe:=eh n (bo hn);have ht:=Zs p a n l ls s E1 eb ec ad cp hn X;have adC:(iu s a (.mk n l) ls).length<=s.length+1:=YN _ _ _ _;generalize kE:iu s a (.mk n l) ls=s1 at *
 have qE:n.kids.length=l.length:=by rw [hk,dy]
 unfold aV at hr;unfold HO Li XQ;refine ai func167 ntmps167 ?_;refine GL.oB [0,1,5] ht rfl rfl rfl (by repeat (first | exact trivial | refine ⟨rfl,?_⟩)) ?_;rintro _ _ ⟨rfl,eb,ec,rfl⟩;refine zas ?_;refine GW.range (n.kids.map fun i=>[GV.v (ii i)]).length (fun k fr Γ=>∃ iL iM pY pZ,fr=[.v (ii (a:Nat)),.loc 2 0,.loc 3 0,.box (aq p) 0,.loc 4 0,U,U,U,U,U,U,U,U,U,U,U,U,ints n.kids,.v (ii ((n.kids.map fun i=>[GV.v (ii i)]).length:Int)),.v (ii (k:Nat)),U,U,U,U,U,U,U,U,U,U,U,U,U,U,U,U,U,U,U,U,U,U,U]/\Γ=HO p E1 E2 E3 E4 (cU iu (l.take k) (a+1) s1 ls).1 (cU iu (l.take k) (a+1) s1 ls).2 iL iM pY pZ) ?_ zgr ?_ ?_ ?_
 ·exact ⟨_,_,Wk.aH ao,ad,cp,eb,ec,rfl,rfl⟩
 ·rintro k _ _ ⟨ad,cp,eb,ec,rfl,rfl⟩;exact dr
 ·rintro k _ _ au ⟨ad,cp,eb,ec,rfl,rfl⟩;rw [bM,qE] at au;obtain ⟨u,hu⟩:∃ u,l[k]?=some u:=⟨l[k],by simp [au]⟩;have ny:=sY (n:=a+1) hu;rw [<-hk] at ny;have sV:=pd ny;have dj:=ku hu;have EG:ek p.nodes (a+1+aB (l.take k)) u:=ey.ix l (a+1) k u nB hu
  have hlen:(cU iu (l.take k) (a+1) s1 ls).2.length<=ls.length+aB (l.take k):=by
   exact zcB
  have Io:(cU iu (l.take k) (a+1) s1 ls).1.length<=s1.length+aB (l.take k):=by
   rw [FN,aL];have:=Vx (l.take k);omega
  rw [wJ _ hu];generalize (cU iu (l.take k) (a+1) s1 ls).1=s2 at *;generalize (cU iu (l.take k) (a+1) s1 ls).2=ls2 at *;have hv:=ih u X (a+1+aB (l.take k)) s2 ls2 ad cp eb ec EG X X;unfold HO Li XQ at hv |-;refine D ?_;refine GL.oB [0,1,2,3,4,5] hv rfl rfl rfl (by repeat (first | exact trivial | refine ⟨rfl,?_⟩)) ?_;rintro _ _ ⟨rfl,iL,iM,pY,pZ,rfl⟩;exact ze8
 ·rintro _ _ ⟨ad,cp,eb,ec,rfl,rfl⟩;rw [bM,qE,c7]
  have hlen:(cU iu l (a+1) s1 ls).2.length<=ls.length+aB l:=by
   exact zd5
  generalize (cU iu l (a+1) s1 ls).1=s2 at *;generalize (cU iu l (a+1) s1 ls).2=ls2 at *;have vn:(br ls2).length=ls2.length:=mO ls2;unfold HO Li XQ;refine bc ?_
  cases hv:(n.kind==13) with
  | false =>
   exact zdT
  | true =>
   refine zap ?_;refine OA rfl rfl (GL.nF 5 (news:=[[.v (sv n.s)]]) rfl rfl rfl az rfl rfl (by refine ⟨?_,?_⟩;(· show _+1<=_;omega);(· show (_+1) * _<=_;omega)) ?_);intro oK oN;exact ze3
theorem Yk (p:Src) (E1:TypeId) (i:Nat) (f:Go.Sp.Fn) (t:T) (s:List ae) (eb:Option Addr) (ec:Nat) (hp:p.nodes.length<=1048576) (eh:∀ n∈p.nodes,n.kids.length<=1099511627776)
  (hf:p.fns[i]?=some f) (qx:f.params.length<=1048576) (hb:0<=f.body) (b6:ek p.nodes f.body.toNat t) (dj:aQ t<=1048576) (hs:s.length+aQ t<=8388608) :
  GC prog 101 [.agg (aq p),.v (ii (i:Nat)),Li p] (XF E1 s eb ec) fun g Δ=>g=.tup []/\∃ pY pZ,Δ=XF E1 (fF iu t f.body.toNat s f.params).1 pY pZ:=by
 have hr:(p.fns.map aw)[i]?=some (aw f):=by rw [bp,hf];rfl
 have cH:(f.params.map fun s=>[GV.v (sv s)]).length=f.params.length:=by simp
 have eP:=rb f.params;obtain ⟨b,sR⟩:∃ b:Nat,f.body=(b:Int):=⟨f.body.toNat,by omega⟩;rw [sR,iK] at b6 |-;unfold aw at hr;rw [sR] at hr;unfold Li XF;refine dh func101 ntmps101 ?_;refine zal ?_;refine GL.xz 4 rfl rfl rfl rfl eP (by refine ⟨?_,?_⟩;(· rw [cH];omega);(· rw [cH];omega)) ?_;intro ad cp;rw [cH];refine zbJ ?_;refine GW.Ef (cV:=[U,.v (ii (i:Nat)),U,.box (aq p) 0,U,.loc 3 0,.loc 5 0,.loc 6 0,U,U,U,U,U,U,U,U,U,U,U,U,U,U,U,U]) (aZ:=[.box E1 [.v (.slice eb s.length ec)],.vech 9 1 (br s) (.slice eb s.length ec),.gone,.box _ [.fn (.func 105) [] [.box (aq p) 0,.loc 0 0]],.vech 9 1 (br f.params) (.slice ad f.params.length cp),.box _ [.v (.slice ad f.params.length cp)],.box _ [.fn (.func 167) [] [.loc 3 0,.loc 5 0,.box (aq p) 0,.loc 6 0]]]) ao rfl ?_;refine zc1 ?_;have hv:=Wi p E1;refine OA rfl rfl (GL.oB [0,1,3,5,6,4] (hv _ _ _ hp eh _ t (aI _) b s f.params ad cp eb ec b6 X hs) rfl rfl rfl (by repeat (first | exact trivial | refine ⟨rfl,?_⟩)) ?_);rintro _ _ ⟨rfl,iL,iM,pY,pZ,rfl⟩;refine ⟨by simp [HO],?_⟩;unfold HO;refine zaL ?_;refine c8 ?_;exact ⟨rfl,pY,pZ,rfl⟩
theorem PE (p:Src) (hw:b7 p<=1048576) {l:List T} {i:Nat} {f:Go.Sp.Fn} {t:T} (h:kM p l i f t) :
  GC prog 50 [.agg (aq p),.v (ii (i:Nat))] [] fun g Δ=>∃ ad cp,g=.v (.slice ad (f.params++dI t).length cp)/\Δ=[.vech 9 1 (br (f.params++dI t)) (.slice ad (f.params++dI t).length cp)]:=by
 obtain ⟨⟨a1,a2⟩,⟨b1,b2⟩,⟨c1,c2⟩,⟨d1,d2⟩⟩:=dU p
 have hr:(p.fns.map aw)[i]?=some (aw f):=by rw [bp,h.gf];rfl
 have cH:(f.params.map fun s=>[GV.v (sv s)]).length=f.params.length:=by simp
 have qx:f.params.length<=1048576:=by have:=(c2 f (bo h.gf)).2.1;omega
 have eP:=rb f.params;have dj:=h.sz
 have hE:=fun eb ec=>Yk p 23 i f t f.params eb ec X (fun n hn=>by have:=(d2 n hn).2;omega) h.gf qx h.body h.st X X
 rw [Q8,Ny t h.wf] at hE;unfold Li XF at hE;unfold aw at hr;refine dh func50 ntmps50 ?_;refine GW.wk (Wk.gK 9 1) ?_;refine zd9 ?_;refine GL.xz 0 rfl rfl rfl rfl eP (by refine ⟨?_,?_⟩;(· rw [cH];omega);(· rw [cH];omega)) ?_;intro ad cp;rw [cH];refine ct ?_;simp only [nil_append,length_nil,dJ];refine ji ?_;refine zcd ?_;refine zaN ?_;refine bA [2,0] (hE ad cp) ?_;rintro _ _ ⟨rfl,eb,ec,rfl⟩;refine zas ?_;refine gL ?_;exact la (n:=1) rfl cB rfl (c6 rfl) rfl rfl ⟨eb,ec,rfl,rfl⟩
open Go.Sp
attribute [local irreducible] pE sI qJ
theorem L5 (code:ae) (hl:code.length<=1099511627776) (c:dx) (hc:c.i<=code.length) :
  GC prog 41 [.loc 0 0] [gS code c] (IK code):=by
 have I:=cW code 4 c hl hc;have i1:=cw (code:=code) 4 hc;generalize bd code 4 c=a at *;obtain ⟨k,c1⟩:=a;simp only at I i1
 by_cases hk:k=0
 ·have fm:(k==0)=true:=by simpa using hk
  refine ai func41 ntmps41 ?_;refine zfI ?_;refine bA [0] (yg code hl c1 i1) ?_;rintro _ _ ⟨c2,p,i2,hw,hn,rfl,rfl⟩;exact za7
 ·have fm:(k==0)=false:=by simpa using hk
  by_cases qV:k=1
  ·have adp:(k==1)=true:=by simpa using qV
   have G:=cW code 3 c1 hl i1;have r2:=cK code c1 (n:=3) X;have i2:=cw (code:=code) 3 i1;generalize bd code 3 c1=a at *;obtain ⟨q,c2⟩:=a;simp only at G r2 i2;obtain ⟨q,rfl⟩:∃ q':Nat,q=(q':Int):=⟨q.toNat,by omega⟩;refine ai func41 ntmps41 ?_;refine zfI ?_;refine zam ?_;refine V [0] G ?_;refine GL.Ir 1000 rfl rfl (by decide +kernel) (by show q < 3;omega) rfl ?_;intro s hs;refine ct ?_;exact zaX
  ·have adp:(k==1)=false:=by simpa using qV
   refine ai func41 ntmps41 ?_;exact zda
theorem Iz (code:ae) (hl:code.length<=1099511627776):GC prog 9 [.sl 1 (bN code)] [] ZE:=by
 refine ai func9 ntmps9 ?_;refine bA [] (DN code hl) ?_;rintro _ _ ⟨h,rfl,rfl⟩;refine zas ?_;refine bA [1] (L5 code hl ⟨0,h⟩ (aS _)) ?_;rintro _ _ ⟨c1,p,i1,hw,hn,rfl,rfl⟩;exact za5
end Go.Xg
namespace Go.Im
open Go.Xp Go.Sp
def kW (p:Src) (fn:Int):List ae:=if eG p fn=true then (match jX p.nodes p.fns 0 [] with | some (l,_)=>Xv p l fn.toNat | none=>[]) else []
theorem Kc {p:Src} {fn:Int} (h:eG p fn=false):kW p fn=[]:=by unfold kW;rw [h];rfl
theorem F1 {p:Src} {l:List T} {i:Nat} {f:Go.Sp.Fn} {t:T} (hh:eG p (i:Int)=true) (h:kM p l i f t):kW p (i:Int)=f.params++dI t:=by
 unfold kW;rw [ah hh,h.good.AB];simp only [iK];unfold Xv;rw [h.gf,h.gt]
def nI (p:Src) (fn:Int):List ae:=(kW p fn).filter fun s=>lQ [2] p fn s==0
def yl (p:Src) (fn:Int) (k:Nat):List ae:=((kW p fn).take k).filter fun s=>lQ [2] p fn s==0
theorem HZ {p:Src} {fn:Int} {k:Nat} {s:ae} (h:(kW p fn)[k]?=some s):yl p fn (k+1)=if (lQ [2] p fn s==0)=true then yl p fn k++[s] else yl p fn k:=by
 unfold yl;rw [dk,h,List.filter_append];show _++List.filter _ [s]=_;rw [List.filter_cons];split <;> simp
theorem Lo (p:Src) (fn:Int) (k:Nat):(yl p fn k).length<=(kW p fn).length:=by
 unfold yl;have:=List.length_filter_le (fun s=>lQ [2] p fn s==0) ((kW p fn).take k);rw [gE] at this;omega
def jv (name:ae) (one two:Int) (s:Nat × Nat) (_:Nat) (t:T) (ls:List ae):Nat × Nat :=
 if (t.n.s != name || ls.contains name)=true then s else if (t.n.kind==one)=true then (s.1+1,s.2) else if (t.n.kind==two)=true then (s.1,s.2+1) else s
theorem Wl {name:ae} {one two:Int} (h:one≠two) (s:Nat × Nat) (a:Nat) (t:T) (ls:List ae):jv name one two s a t ls=(s.1+(if pI name one t.n ls=true then 1 else 0),s.2+(if pI name two t.n ls=true then 1 else 0)):=by
 unfold jv pI
 cases (t.n.s != name || ls.contains name) with
 | true=>simp
 | false =>
  by_cases I:t.n.kind=one
  ·subst I;simp [h]
  ·by_cases G:t.n.kind=two
   ·subst G;simp [I]
   ·simp [I,G]
theorem Wm (name:ae) (one two:Int) (s:Nat × Nat) (a:Nat) (t:T) (ls:List ae):(jv name one two s a t ls).1<=s.1+1/\(jv name one two s a t ls).2<=s.2+1:=by
 unfold jv;split
 ·omega
 split
 ·simp
 split
 ·simp
 ·omega
mutual
theorem Z6 {name:ae} {one two:Int} (h:one≠two):∀ (t:T) (a:Nat) (s:Nat × Nat) (ls:List ae),(fF (jv name one two) t a s ls).1=(s.1+mb (pI name one) t ls,s.2+mb (pI name two) t ls)
 | .mk n l,a,s,ls=>by
  rw [fF,mb,mb];simp only;rw [OV h l,Wl h];simp only [iJ];rfl
theorem OV {name:ae} {one two:Int} (h:one≠two):∀ (l:List T) (a:Nat) (s:Nat × Nat) (ls:List ae),(cU (jv name one two) l a s ls).1=(s.1+jr (pI name one) l ls,s.2+jr (pI name two) l ls)
 | [],a,s,ls=>by rw [cU,jr,jr];rfl
 | t::r,a,s,ls=>by rw [cU,OV h r,Z6 h t,Cg,jr,jr];simp only [iJ]
end
theorem UM {name:ae} {one two:Int} (h:one≠two) (l:List T) (a:Nat) (s:Nat × Nat) (ls:List ae):(cU (jv name one two) l a s ls).1.1<=s.1+aB l/\(cU (jv name one two) l a s ls).1.2<=s.2+aB l:=by
 rw [OV h];have:=yC (pI name one) l ls;have:=yC (pI name two) l ls;exact zcb
theorem Dn (k:Int) (p:Src) (name:ae):∀ (fs:List Go.Sp.Fn) (l:List T),jR k p name fs l<=aB l
 | [],l=>by unfold jR;exact aS _
 | f::r,[]=>by unfold jR;exact aS _
 | f::r,t::l=>by
  have:=Dn k p name r l;have:=QS (pI name k) t f.params;rw [jR,aB];omega
theorem zF (k:Int) (p:Src) (name:ae):∀ {fs:List Go.Sp.Fn} {l:List T} {i:Nat} {f:Go.Sp.Fn} {t:T},fs[i]?=some f->l[i]?=some t->jR k p name (fs.take (i+1)) (l.take (i+1))=jR k p name (fs.take i) (l.take i)+mb (pI name k) t f.params
 | g::r,u::l,0,f,t,I,G=>by
  cases I;cases G
  simp [jR]
 | g::r,u::l,i+1,f,t,I,G=>by
  have:=zF k p name (fs:=r) (l:=l) (i:=i) zgf zgq;rw [take_succ_cons,take_succ_cons,jR,this,take_succ_cons,take_succ_cons,jR];omega
 | [],_,i,f,t,I,G=>by simp at I
 | g::r,[],i,f,t,I,G=>by simp at G
end Go.Im
namespace Go.Xg
open Go.RowKit Go.Xw Go.Proofs Tryz Go.Im
open Go.Xp (Nd T aB)
open Go.Sp (Src)
attribute [local irreducible] GW GL GO YG GC GA aU aW
theorem Zr (p:Src) (name:ae) (one two:Int) (a:Nat) (n:Nd) (l:List T) (ls:List ae) (s:Nat × Nat) (E1 E5:TypeId) (ad:Option Addr) (cp:Nat) (hn:p.nodes[a]?=some n) (gW:ls.length<=1099511627776) (hs:s.1<=1099511627776/\s.2<=1099511627776) :
  GF prog 104 [.v (ii (a:Nat)),.v (.slice ad ls.length cp),.box (aq p) 0,.box [.v (sv name)] 0,.box [.v (ii one)] 0,.loc 0 0,.box [.v (ii two)] 0,.loc 1 0] [.box E1 [.v (ii (s.1:Nat))],.box E5 [.v (ii (s.2:Nat))],.vech 9 1 (br ls) (.slice ad ls.length cp)] (.tup [])
   [.box E1 [.v (ii ((jv name one two s a (.mk n l) ls).1:Nat))],.box E5 [.v (ii ((jv name one two s a (.mk n l) ls).2:Nat))],.vech 9 1 (br ls) (.slice ad ls.length cp)]:=by
 have hr:=iv hn;have hL:=ke ls name gW
 have e:jv name one two s a (.mk n l) ls=if (n.s != name || ls.contains name)=true then s else if (n.kind==one)=true then (s.1+1,s.2) else if (n.kind==two)=true then (s.1,s.2+1) else s:=rfl
 obtain ⟨sa,sb⟩:=s;simp only at hs e;rw [e];unfold aV at hr;refine dh func104 ntmps104 ?_
 cases I:(n.s != name) with
 | true =>
  rw [ah zf8];have dD:(!(n.s==name))=true:=I;exact gh
 | false =>
  have dD:(!(n.s==name))=false:=I
  cases G:ls.contains name with
  | true =>
   rw [G] at hL;rw [ah zf8];exact zaA
  | false =>
   rw [G] at hL;rw [ab zf8]
   cases h3:(n.kind==one) with
   | true =>
    rw [ah rfl];exact zaA
   | false =>
    rw [ab aD]
    cases h4:(n.kind==two) with
    | true =>
     rw [ah rfl];exact zaA
    | false =>
     rw [ab aD];exact zaA
open GV (U)
open Go.Xp (aQ dy)
def Lh (p:Src) (name:ae) (one two:Int):GV:=.fn (.func 104) [] [.box (aq p) 0,.box [.v (sv name)] 0,.box [.v (ii one)] 0,.loc 0 0,.box [.v (ii two)] 0,.loc 1 0]
def XP (p:Src):GV:=.fn (.func 167) [] [.loc 2 0,.loc 3 0,.box (aq p) 0,.loc 4 0]
def HN (p:Src) (name:ae) (one two:Int) (E1 E5 E2 E3 E4:TypeId) (s:Nat × Nat) (ls:List ae) (ad:Option Addr) (cp:Nat):List Ob :=
 [.box E1 [.v (ii (s.1:Nat))],.box E5 [.v (ii (s.2:Nat))],.box E2 [Lh p name one two],.box E3 [.v (.slice ad ls.length cp)],.box E4 [XP p],.vech 9 1 (br ls) (.slice ad ls.length cp)]
theorem Wh (p:Src) (name:ae) (one two:Int) (E1 E5 E2 E3 E4:TypeId) (hp:p.nodes.length<=1048576) (eh:∀ n∈p.nodes,n.kids.length<=1099511627776) (Nc:one≠two):∀ (N:Nat) (t:T),aQ t<=N->∀ (a:Nat) (s:Nat × Nat) (ls:List ae) (ad:Option Addr) (cp:Nat),ek p.nodes a t->ls.length+aQ t<=8388608->s.1+aQ t<=8388608/\s.2+aQ t<=8388608 ->
  GC prog 167 [.v (ii (a:Nat)),.loc 2 0,.loc 3 0,.box (aq p) 0,.loc 4 0] (HN p name one two E1 E5 E2 E3 E4 s ls ad cp) fun g Δ=>g=.tup []/\∃ iL iM,Δ=HN p name one two E1 E5 E2 E3 E4 (fF (jv name one two) t a s ls).1 (fF (jv name one two) t a s ls).2 iL iM:=by
 intro N
 induction N with
 | zero=>intro t h;exact zcF
 | succ N ih =>
 intro t hN a s ls ad cp b6 gW hs
 cases t with
 | mk n l =>
 rw [Go.Xp.aQ] at hN gW hs;have Pf:=b6;rw [ek] at b6;obtain ⟨hn,hk,nB⟩:=b6;rw [fF];have hr:=iv hn;have qe:=eh n (bo hn);have ht:=Zr p name one two a n l ls s E1 E5 ad cp hn X X;have hm0:=Wm name one two s a (.mk n l) ls;generalize kE:(jv name one two) s a (.mk n l) ls=s1 at *
 have qE:n.kids.length=l.length:=by rw [hk,dy]
 unfold aV at hr;unfold HN Lh XP;refine ai func167 ntmps167 ?_;refine GL.oB [0,1,5] ht rfl rfl rfl (by repeat (first | exact trivial | refine ⟨rfl,?_⟩)) ?_;rintro _ _ ⟨rfl,rfl⟩;refine zas ?_;refine GW.range (n.kids.map fun i=>[GV.v (ii i)]).length (fun k fr Γ=>∃ iL iM,fr=[.v (ii (a:Nat)),.loc 2 0,.loc 3 0,.box (aq p) 0,.loc 4 0,U,U,U,U,U,U,U,U,U,U,U,U,ints n.kids,.v (ii ((n.kids.map fun i=>[GV.v (ii i)]).length:Int)),.v (ii (k:Nat)),U,U,U,U,U,U,U,U,U,U,U,U,U,U,U,U,U,U,U,U,U,U,U]/\Γ=HN p name one two E1 E5 E2 E3 E4 (cU (jv name one two) (l.take k) (a+1) s1 ls).1 (cU (jv name one two) (l.take k) (a+1) s1 ls).2 iL iM) ?_ zgr ?_ ?_ ?_
 ·exact ze1
 ·rintro k _ _ ⟨ad,cp,rfl,rfl⟩;exact dr
 ·rintro k _ _ au ⟨ad,cp,rfl,rfl⟩;rw [bM,qE] at au;obtain ⟨u,hu⟩:∃ u,l[k]?=some u:=⟨l[k],by simp [au]⟩;have ny:=sY (n:=a+1) hu;rw [<-hk] at ny;have sV:=pd ny;have dj:=ku hu;have EG:ek p.nodes (a+1+aB (l.take k)) u:=ey.ix l (a+1) k u nB hu
  have hlen:(cU (jv name one two) (l.take k) (a+1) s1 ls).2.length<=ls.length+aB (l.take k):=by
   exact zcB
  have R6:=UM (name:=name) Nc (l.take k) (a+1) s1 ls;rw [wJ _ hu];generalize (cU (jv name one two) (l.take k) (a+1) s1 ls).1=s2 at *;generalize (cU (jv name one two) (l.take k) (a+1) s1 ls).2=ls2 at *;have hv:=ih u X (a+1+aB (l.take k)) s2 ls2 ad cp EG X X;unfold HN Lh XP at hv |-;refine D ?_;refine GL.oB [0,1,2,3,4,5] hv rfl rfl rfl (by repeat (first | exact trivial | refine ⟨rfl,?_⟩)) ?_;rintro _ _ ⟨rfl,iL,iM,rfl⟩;exact zcP
 ·rintro _ _ ⟨ad,cp,rfl,rfl⟩;rw [bM,qE,c7]
  have hlen:(cU (jv name one two) l (a+1) s1 ls).2.length<=ls.length+aB l:=by
   exact zd5
  generalize (cU (jv name one two) l (a+1) s1 ls).1=s2 at *;generalize (cU (jv name one two) l (a+1) s1 ls).2=ls2 at *;have vn:(br ls2).length=ls2.length:=mO ls2;unfold HN Lh XP;refine bc ?_
  cases hv:(n.kind==13) with
  | false =>
   exact zb0
  | true =>
   refine zap ?_;refine OA rfl rfl (GL.nF 5 (news:=[[.v (sv n.s)]]) rfl rfl rfl az rfl rfl (by refine ⟨?_,?_⟩;(· show _+1<=_;omega);(· show (_+1) * _<=_;omega)) ?_);intro oK oN;exact zbK
theorem Yj (p:Src) (name:ae) (one two:Int) (E1 E5:TypeId) (i:Nat) (f:Go.Sp.Fn) (t:T) (s:Nat × Nat) (hp:p.nodes.length<=1048576) (eh:∀ n∈p.nodes,n.kids.length<=1099511627776) (Nc:one≠two)
  (hf:p.fns[i]?=some f) (qx:f.params.length<=1048576) (hb:0<=f.body) (b6:ek p.nodes f.body.toNat t) (dj:aQ t<=1048576) (hs:s.1+aQ t<=8388608/\s.2+aQ t<=8388608) :
  GF prog 101 [.agg (aq p),.v (ii (i:Nat)),Lh p name one two] [.box E1 [.v (ii (s.1:Nat))],.box E5 [.v (ii (s.2:Nat))]] (.tup []) [.box E1 [.v (ii ((fF (jv name one two) t f.body.toNat s f.params).1.1:Nat))],.box E5 [.v (ii ((fF (jv name one two) t f.body.toNat s f.params).1.2:Nat))]]:=by
 have hr:(p.fns.map aw)[i]?=some (aw f):=by rw [bp,hf];rfl
 have cH:(f.params.map fun s=>[GV.v (sv s)]).length=f.params.length:=by simp
 have eP:=rb f.params;obtain ⟨b,sR⟩:∃ b:Nat,f.body=(b:Int):=⟨f.body.toNat,by omega⟩;rw [sR,iK] at b6 |-;unfold aw at hr;rw [sR] at hr;unfold Lh;refine dh func101 ntmps101 ?_;refine zal ?_;refine GL.xz 4 rfl rfl rfl rfl eP (by refine ⟨?_,?_⟩;(· rw [cH];omega);(· rw [cH];omega)) ?_;intro ad cp;rw [cH];refine zbJ ?_;refine GW.Ef (cV:=[U,.v (ii (i:Nat)),U,.box (aq p) 0,U,.loc 3 0,.loc 5 0,.loc 6 0,U,U,U,U,U,U,U,U,U,U,U,U,U,U,U,U]) (aZ:=[.box E1 [.v (ii (s.1:Nat))],.box E5 [.v (ii (s.2:Nat))],.gone,.box _ [.fn (.func 104) [] [.box (aq p) 0,.box [.v (sv name)] 0,.box [.v (ii one)] 0,.loc 0 0,.box [.v (ii two)] 0,.loc 1 0]],.vech 9 1 (br f.params) (.slice ad f.params.length cp),.box _ [.v (.slice ad f.params.length cp)],.box _ [.fn (.func 167) [] [.loc 3 0,.loc 5 0,.box (aq p) 0,.loc 6 0]]]) ao rfl ?_;refine zc1 ?_;have hv:=Wh p name one two E1 E5;refine OA rfl rfl (GL.oB [0,1,3,5,6,4] (hv _ _ _ hp eh Nc _ t (aI _) b s f.params ad cp b6 X hs) rfl rfl rfl (by repeat (first | exact trivial | refine ⟨rfl,?_⟩)) ?_);rintro _ _ ⟨rfl,iL,iM,rfl⟩;refine ⟨by simp [HN],?_⟩;unfold HN;refine zdi ?_;exact gh
theorem Zt (p:Src) (name:ae) (ks:List Int) (a s:Nat) (n:Nd) (ls:List ae) (E1:TypeId) (ad:Option Addr) (cp:Nat) (hn:p.nodes[a]?=some n) (rH:ks.length<=1099511627776) (gW:ls.length<=1099511627776) (hs:s<=1099511627776) :
  GF prog 102 [.v (ii (a:Nat)),.v (.slice ad ls.length cp),.box (aq p) 0,.box [.v (sv name)] 0,.box [ints ks] 0,.loc 0 0] [.box E1 [.v (ii (s:Nat))],.vech 9 1 (br ls) (.slice ad ls.length cp)] (.tup [])
   [.box E1 [.v (ii ((if iF name ks n ls=true then s+1 else s:Nat):Nat))],.vech 9 1 (br ls) (.slice ad ls.length cp)]:=by
 have hr:=iv hn;have hC:=rS ks n.kind rH;have hL:=ke ls name gW
 have e1:(n.s==name)=true->ks.contains n.kind=true->(n.kind==13 || ls.contains name)=true->((if iF name ks n ls=true then s+1 else s:Nat))=s+1:=fun I G h3=>by unfold iF;rw [I,G,h3];rfl
 have e2:(n.s==name)=false\/ks.contains n.kind=false\/(n.kind==13 || ls.contains name)=false->((if iF name ks n ls=true then s+1 else s:Nat))=s:=fun h=>by unfold iF;rcases h with h | h | h <;> rw [h] <;> simp
 unfold aV at hr;generalize hz:((if iF name ks n ls=true then s+1 else s:Nat))=z at *;refine dh func102 ntmps102 ?_
 cases I:(n.s==name) with
 | false =>
  obtain rfl:=e2 (.inl I);exact gh
 | true =>
  cases G:ks.contains n.kind with
  | false =>
   rw [G] at hC;obtain rfl:=e2 (.inr (.inl G));refine zce ?_;exact iy
  | true =>
   rw [G] at hC
   cases h3:(n.kind==13) with
   | true =>
    obtain rfl:=e1 I G (by rw [h3];rfl);refine zce ?_;exact iy
   | false =>
    cases h4:ls.contains name with
    | true =>
     rw [h4] at hL;obtain rfl:=e1 I G (by rw [h4];simp);exact zcT
    | false =>
     rw [h4] at hL;obtain rfl:=e2 (.inr (.inr (by rw [h3,h4];rfl)));exact zcT
def Lj (p:Src) (name:ae) (ks:List Int):GV:=.fn (.func 102) [] [.box (aq p) 0,.box [.v (sv name)] 0,.box [ints ks] 0,.loc 0 0]
def XR (p:Src):GV:=.fn (.func 167) [] [.loc 1 0,.loc 2 0,.box (aq p) 0,.loc 3 0]
def HD (p:Src) (name:ae) (ks:List Int) (E1 E2 E3 E4:TypeId) (s:Nat) (ls:List ae) (ad:Option Addr) (cp:Nat):List Ob :=
 [.box E1 [.v (ii (s:Nat))],.box E2 [Lj p name ks],.box E3 [.v (.slice ad ls.length cp)],.box E4 [XR p],.vech 9 1 (br ls) (.slice ad ls.length cp)]
theorem Wj (p:Src) (name:ae) (ks:List Int) (E1 E2 E3 E4:TypeId) (hp:p.nodes.length<=1048576) (eh:∀ n∈p.nodes,n.kids.length<=1099511627776) (rH:ks.length<=1099511627776):∀ (N:Nat) (t:T),aQ t<=N->∀ (a s:Nat) (ls:List ae) (ad:Option Addr) (cp:Nat),ek p.nodes a t->ls.length+aQ t<=8388608->s+aQ t<=8388608 ->
  GC prog 167 [.v (ii (a:Nat)),.loc 1 0,.loc 2 0,.box (aq p) 0,.loc 3 0] (HD p name ks E1 E2 E3 E4 s ls ad cp) fun g Δ=>g=.tup []/\∃ iL iM,Δ=HD p name ks E1 E2 E3 E4 (fF (iC (iF name ks)) t a s ls).1 (fF (iC (iF name ks)) t a s ls).2 iL iM:=by
 intro N
 induction N with
 | zero=>intro t h;exact zcF
 | succ N ih =>
 intro t hN a s ls ad cp b6 gW hs
 cases t with
 | mk n l =>
 rw [Go.Xp.aQ] at hN gW hs;rw [ek] at b6;obtain ⟨hn,hk,nB⟩:=b6;rw [fF];have hr:=iv hn;have qe:=eh n (bo hn);have ht:=Zt p name ks a s n ls E1 ad cp hn rH X X;rw [show (if iF name ks n ls=true then s+1 else s)=iC (iF name ks) s a (.mk n l) ls from rfl] at ht
 have kE:iC (iF name ks) s a (.mk n l) ls<=s+1:=by unfold iC;split <;> omega
 generalize iC (iF name ks) s a (.mk n l) ls=s1 at *
 have qE:n.kids.length=l.length:=by rw [hk,dy]
 unfold aV at hr;unfold HD Lj XR;refine ai func167 ntmps167 ?_;refine GL.oB [0,4] ht rfl rfl rfl nj ?_;rintro _ _ ⟨rfl,rfl⟩;refine zas ?_;refine GW.range (n.kids.map fun i=>[GV.v (ii i)]).length (fun k fr Γ=>∃ iL iM,fr=[.v (ii (a:Nat)),.loc 1 0,.loc 2 0,.box (aq p) 0,.loc 3 0,U,U,U,U,U,U,U,U,U,U,U,U,ints n.kids,.v (ii ((n.kids.map fun i=>[GV.v (ii i)]).length:Int)),.v (ii (k:Nat)),U,U,U,U,U,U,U,U,U,U,U,U,U,U,U,U,U,U,U,U,U,U,U]/\Γ=HD p name ks E1 E2 E3 E4 (cU (iC (iF name ks)) (l.take k) (a+1) s1 ls).1 (cU (iC (iF name ks)) (l.take k) (a+1) s1 ls).2 iL iM) ?_ zgr ?_ ?_ ?_
 ·exact ze1
 ·rintro k _ _ ⟨ad,cp,rfl,rfl⟩;exact dr
 ·rintro k _ _ au ⟨ad,cp,rfl,rfl⟩;rw [bM,qE] at au;obtain ⟨u,hu⟩:∃ u,l[k]?=some u:=⟨l[k],by simp [au]⟩;have ny:=sY (n:=a+1) hu;rw [<-hk] at ny;have sV:=pd ny;have dj:=ku hu;have EG:ek p.nodes (a+1+aB (l.take k)) u:=ey.ix l (a+1) k u nB hu
  have hlen:(cU (iC (iF name ks)) (l.take k) (a+1) s1 ls).2.length<=ls.length+aB (l.take k):=by
   exact zcB
  have Bv:(cU (iC (iF name ks)) (l.take k) (a+1) s1 ls).1<=s1+aB (l.take k):=by
   rw [FM];have:=yC (iF name ks) (l.take k) ls;omega
  rw [wJ _ hu];generalize (cU (iC (iF name ks)) (l.take k) (a+1) s1 ls).1=s2 at *;generalize (cU (iC (iF name ks)) (l.take k) (a+1) s1 ls).2=ls2 at *;have hv:=ih u X (a+1+aB (l.take k)) s2 ls2 ad cp EG X X;unfold HD Lj XR at hv |-;refine D ?_;refine GL.oB [0,1,2,3,4] hv rfl rfl rfl nj ?_;rintro _ _ ⟨rfl,iL,iM,rfl⟩;exact zcP
 ·rintro _ _ ⟨ad,cp,rfl,rfl⟩;rw [bM,qE,c7]
  have hlen:(cU (iC (iF name ks)) l (a+1) s1 ls).2.length<=ls.length+aB l:=by
   exact zd5
  generalize (cU (iC (iF name ks)) l (a+1) s1 ls).1=s2 at *;generalize (cU (iC (iF name ks)) l (a+1) s1 ls).2=ls2 at *;have vn:(br ls2).length=ls2.length:=mO ls2;unfold HD Lj XR;refine bc ?_
  cases hv:(n.kind==13) with
  | false =>
   exact zb0
  | true =>
   refine zap ?_;refine OA rfl rfl (GL.nF 4 (news:=[[.v (sv n.s)]]) rfl rfl rfl az rfl rfl (by refine ⟨?_,?_⟩;(· show _+1<=_;omega);(· show (_+1) * _<=_;omega)) ?_);intro oK oN;exact zbK
theorem Yl (p:Src) (name:ae) (ks:List Int) (E1:TypeId) (i:Nat) (f:Go.Sp.Fn) (t:T) (hp:p.nodes.length<=1048576) (eh:∀ n∈p.nodes,n.kids.length<=1099511627776) (rH:ks.length<=1099511627776)
  (hf:p.fns[i]?=some f) (qx:f.params.length<=1048576) (hb:0<=f.body) (b6:ek p.nodes f.body.toNat t) (dj:aQ t<=1048576) :
  GF prog 101 [.agg (aq p),.v (ii (i:Nat)),Lj p name ks] [.box E1 [.v (ii (0:Nat))]] (.tup []) [.box E1 [.v (ii ((mb (iF name ks) t f.params:Nat):Int))]]:=by
 have hr:(p.fns.map aw)[i]?=some (aw f):=by rw [bp,hf];rfl
 have cH:(f.params.map fun s=>[GV.v (sv s)]).length=f.params.length:=by simp
 have eP:=rb f.params
 have aas:(fF (iC (iF name ks)) t f.body.toNat 0 f.params).1=mb (iF name ks) t f.params:=by rw [Q7];omega
 obtain ⟨b,sR⟩:∃ b:Nat,f.body=(b:Int):=⟨f.body.toNat,by omega⟩;rw [sR,iK] at b6 aas;rw [<-aas];unfold aw at hr;rw [sR] at hr;unfold Lj;refine dh func101 ntmps101 ?_;refine ji ?_;refine GL.wk (Wk.freeze (i:=1) rfl rfl rfl (aI _)) ?_;refine GN zg0 ?_;refine GL.wk (Wk.aH (cV:=[U,.v (ii (i:Nat)),U,.box (aq p) 0,U,.loc 2 0,U,U,U,U,U,U,U,strs f.params,U,U,U,U,U,U,U,U,U,U]) ao) ?_;refine GL.wk (Wk.gK 9 1) ?_;refine GL.xz 3 rfl rfl rfl rfl eP (by refine ⟨?_,?_⟩;(· rw [cH];omega);(· rw [cH];omega)) ?_;intro ad cp;rw [cH];refine zbJ ?_;refine GW.Ef (cV:=[U,.v (ii (i:Nat)),U,.box (aq p) 0,U,.loc 2 0,.loc 4 0,.loc 5 0,U,U,U,U,U,U,U,U,U,U,U,U,U,U,U,U]) (aZ:=[.box E1 [.v (ii (0:Nat))],.gone,.box _ [.fn (.func 102) [] [.box (aq p) 0,.box [.v (sv name)] 0,.box [ints ks] 0,.loc 0 0]],.vech 9 1 (br f.params) (.slice ad f.params.length cp),.box _ [.v (.slice ad f.params.length cp)],.box _ [.fn (.func 167) [] [.loc 2 0,.loc 4 0,.box (aq p) 0,.loc 5 0]]]) ao rfl ?_;refine zc1 ?_;have hv:=Wj p name ks E1;refine OA rfl rfl (GL.oB [0,2,4,5,3] (hv _ _ _ hp eh rH _ t (aI _) b 0 f.params ad cp b6 X X) rfl rfl rfl nj ?_);rintro _ _ ⟨rfl,iL,iM,rfl⟩;refine ⟨by simp [HD],?_⟩;unfold HD;refine zdi ?_;exact gh
theorem H8 (p:Src) (fn:Int) (name:ae) (ks:List Int) (hH:GF prog 49 [.agg (aq p),.v (ii fn)] [] (.v (.bool false)) []) :
  GF prog 45 [.agg (aq p),.v (ii fn),.v (sv name),ints ks] [] (.v (ii (-1))) []:=by
 refine ai func45 ntmps45 ?_;refine V [] hH ?_;exact al
theorem FK (p:Src) (i:Nat) (name:ae) (ks:List Int) (f:Go.Sp.Fn) (t:T) (hH:GF prog 49 [.agg (aq p),.v (ii (i:Nat))] [] (.v (.bool true)) [])
  (hp:p.nodes.length<=1048576) (eh:∀ n∈p.nodes,n.kids.length<=1099511627776) (rH:ks.length<=1099511627776)
  (hf:p.fns[i]?=some f) (qx:f.params.length<=1048576) (hb:0<=f.body) (b6:ek p.nodes f.body.toNat t) (dj:aQ t<=1048576) :
  GF prog 45 [.agg (aq p),.v (ii (i:Nat)),.v (sv name),ints ks] [] (.v (ii ((mb (iF name ks) t f.params:Nat):Int))) []:=by
 have hE:=Yl p name ks 3 i f t hp eh rH hf qx hb b6 dj;unfold Lj at hE;refine ai func45 ntmps45 ?_;refine kA [] hH ?_;refine GL.wk (Wk.freeze (i:=0) rfl rfl rfl (aS _)) ?_;refine zcd ?_;refine GL.wk (Wk.freeze (i:=2) rfl rfl rfl (aS _)) ?_;refine GL.wk (Wk.aH (cV:=[U,.v (ii (i:Nat)),U,U,.box (aq p) 0,U,.box [.v (sv name)] 0,.box [ints ks] 0,U,U,U,U,.v (.bool true),U,U,U,U,U,U]) ao) ?_;refine zaN ?_;refine V [3] hE ?_;exact al
theorem IJ (p:Src) (fn:Int) (name:ae) (z:Int) (h:GF prog 45 [.agg (aq p),.v (ii fn),.v (sv name),ints [2]] [] (.v (ii z)) []) :
  GF prog 12 [.agg (aq p),.v (ii fn),.v (sv name)] [] (.v (ii z)) []:=by
 refine ai func12 ntmps12 ?_;refine zam ?_;exact za0
theorem Qx (p:Src) (fn:Int) (name:ae) (z:Int) (h:GF prog 45 [.agg (aq p),.v (ii fn),.v (sv name),ints [7,13]] [] (.v (ii z)) []) :
  GF prog 13 [.agg (aq p),.v (ii fn),.v (sv name)] [] (.v (ii z)) []:=by
 refine ai func13 ntmps13 ?_;refine zam ?_;exact za0
end Go.Xg
namespace Go.Im
open Go.Xp Go.Sp
mutual
theorem MB (ks:List Int) (name:ae) (loc:Bool):∀ t:T,vH ks name loc t<=aQ t
 | .mk n l=>by
  rw [vH,aQ];have:=Dm ks name loc (n.kind==4&&n.s==eA) l;split <;> omega
theorem Dm (ks:List Int) (name:ae) (loc:Bool):∀ (b:Bool) (l:List T),oC ks name loc b l<=aB l
 | b,[]=>by rw [oC];omega
 | b,t::r=>by
  rw [oC,aB];have I:=MB ks name loc t;have G:=Dm ks name loc false r;split <;> omega
end
end Go.Im
namespace Go.Xg
open Go.RowKit Go.Xw Go.Proofs Tryz Go.Im
open GV (U)
open Go.Xp (T aQ aB eI)
attribute [local irreducible] GW GL GO YG GC GA aU aW
theorem YG.eqB {P:Program} {fr:List GV} {Γ:List Ob} {x y:Operand} {t t':TypeId} {a b:Bool} (ht:P.underlying t=some .bool) (hx:bq fr x=.v (.bool a)) (hy:bq fr y=.v (.bool b)):YG P (.binOp .eql t x y t') fr Γ (.v (.bool (a==b))) :=
 YG.v2 hx hy fun l w h k=>fun d ty pos af=>by
  have e:(Op.equal t (.bool a) (.bool b)).run P w=.ok (a==b) w:=run_equalIn_bool w 9999 t a b ht;simp [execOp,eqGuard,h,k,binOp,e]
theorem Py (ks:List Int) (name:ae) (loc:Bool) (rH:ks.length<=1099511627776):∀ (N:Nat) (t:T),aQ t<=N->aQ t<=1099511627776 ->
  GF prog 99 [.agg (cT t),ints ks,.v (sv name),.v (.bool loc)] [] (.v (ii ((vH ks name loc t:Nat):Int))) []:=by
 intro N
 induction N with
 | zero=>intro t h;exact zcF
 | succ N ih =>
 intro t hN hb
 cases t with
 | mk n l =>
 have hC:=Ab ks n.kind rH;have hle:=Dm ks name loc (n.kind==4&&n.s==eA) l;rw [Go.Xp.aQ] at hN hb;rw [vH];have nS:=eI l;have eH:(ba l).length=l.length:=bh l;have hh:FX ks name loc n=((ks.contains n.kind&&n.s==name)&&(decide ((0:Int) < n.n)==loc)):=rfl
 have M6:∀ k:Nat,((n.kind==4&&n.s==eA)&&k==0)=!((n.kind != 4 || n.s != [115,105,122,101]) || decide ((0:Int) < (k:Int))):=fun k=>by
  show _=!((!(n.kind==4) || !(n.s==eA)) || _)
  cases n.kind==4 <;> cases n.s==eA <;> cases k <;> simp
 have h0:(n.kind==4&&n.s==eA)=((n.kind==4&&n.s==eA)&&(0:Nat)==0):=by simp
 rw [h0] at hle |-;rw [hh];generalize (n.kind==4&&n.s==eA)=bb at *;obtain ⟨z,J3⟩:∃ z:Nat,(if ((ks.contains n.kind&&n.s==name)&&(decide ((0:Int) < n.n)==loc))=true then 1 else 0)=z:=⟨_,rfl⟩
 have hz1:z<=1:=by rw [<-J3];split <;> omega
 rw [J3];obtain ⟨XM,Ve⟩:∃ XM,z+oC ks name loc (bb&&(0:Nat)==0) l=XM:=⟨_,rfl⟩
 have C5:XM<=1+aB l:=by omega
 rw [Ve]
 cases I:ks.contains n.kind
 all_goals cases G:(n.s==name)
 all_goals cases h3:(decide ((0:Int) < n.n)==loc)
 all_goals
  rw [I] at hC;rw [I,G,h3] at J3;refine ai func99 ntmps99 ?_;refine V [] hC ?_
  try (refine GL.q (YG.eqB (by kernel_rfl) rfl rfl) ?_;refine ct ?_;refine D ?_)
  refine GW.range (ba l).length (fun k fr Γ=>∃ c:Nat,fr=[U,ints ks,.v (sv name),.v (.bool loc),.loc 0 0,U,U,U,U,.v (ii (c:Nat)),U,U,U,U,U,U,U,U,U,U,U,U,U,U,U,U,U,U,U,U,U,U,U,.sl 6 (ba l),.v (ii ((ba l).length:Int)),.v (ii (k:Nat)),U,U,U,U,U,U,U,U,U,U,U,U,U,U,U,U,U,U,U,U,U,U,U,U,U,U,U]/\Γ=[.box 86 (cT (.mk n l))]/\c+oC ks name loc (bb&&k==0) (l.drop k)=XM) ?_ X ?_ ?_ ?_
  ·first
    | exact ⟨_,_,Wk.aH ao,0,rfl,rfl,by rw [List.drop_zero,<-Ve,<-J3];rfl⟩
    | exact ⟨_,_,Wk.aH ao,1,rfl,rfl,by rw [List.drop_zero,<-Ve,<-J3];rfl⟩
  ·rintro k _ _ ⟨c,rfl,rfl,_⟩;exact dr
  ·rintro k _ _ au ⟨c,rfl,rfl,hc⟩;rw [eH] at au;obtain ⟨u,hu⟩:∃ u,l[k]?=some u:=⟨l[k],by simp [au]⟩;have hr:=dB hu
   have hd:l.drop k=u::l.drop (k+1):=by rw [n5 au];rw [bV au] at hu;rw [xY hu]
   have dj:=ku hu;have hi:=ih u X X;have Bh:=MB ks name loc u;rw [hd,oC] at hc
   have hz:(bb&&(k+1==0))=false:=by simp
   have eN:=M6 k
   cases g1:(n.kind != 4)
   all_goals cases g2:(n.s != [115,105,122,101])
   all_goals cases g3:decide ((0:Int) < (k:Int))
   all_goals rw [g1,g2,g3] at eN
   all_goals rw [eN] at hc
   all_goals
    refine D ?_
    first
     | exact ⟨rfl,rfl,_,_,(Wk.cut (n:=1) (aS _) rfl).trans (Wk.aH ao),c,rfl,rfl,by rw [hz];simpa using hc⟩
     | (refine kA [] hi ?_;refine D ?_;exact ⟨rfl,rfl,_,_,(Wk.cut (n:=1) (aS _) rfl).trans (Wk.aH ao),c+vH ks name loc u,rfl,rfl,by rw [hz];simp at hc;omega⟩)
  ·rintro _ _ ⟨c,rfl,rfl,hc⟩;rw [eH,List.drop_length,oC,Nat.add_zero] at hc;rw [<-hc];exact ay
open Go.Sp (Src)
theorem YI (p:Src) (fn:Int) (g:Bool) (hg:GF prog 54 [.agg (aq p)] [] (.v (.bool g)) []) :
  GF prog 98 [.agg (aq p),.v (ii fn)] [] (.v (.bool ((g&&decide ((0:Int)<=fn))&&decide (fn < ((p.fns.map aw).length:Int))))) []:=by
 cases g
 all_goals cases I:decide ((0:Int)<=fn)
 all_goals
  refine ai func98 ntmps98 ?_;exact zfy
theorem Qt (p:Src) (fn:Int) (name:ae) (hH:GF prog 98 [.agg (aq p),.v (ii fn)] [] (.v (.bool false)) []) :
  GF prog 44 [.agg (aq p),.v (ii fn),.v (sv name)] [] (.v (ii (-1))) []:=by
 refine ai func44 ntmps44 ?_;refine V [] hH ?_;exact al
theorem OB (p:Src) (fn:Int) (name:ae) (t:T) (hH:GF prog 98 [.agg (aq p),.v (ii fn)] [] (.v (.bool true)) [])
  (hB:GF prog 100 [.agg (aq p),.v (ii fn)] [] (.agg (cT t)) []) (dj:aQ t<=1099511627776) :
  GF prog 44 [.agg (aq p),.v (ii fn),.v (sv name)] [] (.v (ii ((vH [2] name true t:Nat):Int))) []:=by
 have hN:=Py [2] name true aD _ t (aI _) dj;refine ai func44 ntmps44 ?_;refine V [] hH ?_;refine V [] hB ?_;refine zam ?_;refine V [] hN ?_;exact al
theorem U3 (p:Src) (fn:Int) (hw:b7 p<=1048576):GF prog 98 [.agg (aq p),.v (ii fn)] [] (.v (.bool (eG p fn))) []:=by
 have h:=YI p fn _ (yI p hw);rw [bM] at h;exact h
theorem Dq (p:Src) (hw:b7 p<=1048576) (hn:ma p) (fn:Int) (name:ae) (ks:List Int) (rH:ks.length<=1099511627776) :
  GF prog 45 [.agg (aq p),.v (ii fn),.v (sv name),ints ks] [] (.v (ii (lQ ks p fn name))) []:=by
 obtain ⟨⟨a1,a2⟩,⟨b1,b2⟩,⟨c1,c2⟩,⟨d1,d2⟩⟩:=dU p;have hH:=zO p fn hw hn
 cases hh:eG p fn with
 | false =>
  rw [hh] at hH;rw [Dp hh];exact H8 p fn name ks hH
 | true =>
  rw [hh] at hH;obtain ⟨i,l,f,t,rfl,h⟩:=mK hh;rw [A0 (sQ hh) h];exact FK p i name ks f t hH X (fun n hn=>by have:=(d2 n hn).2;omega) rH h.gf zgC h.body h.st (by have:=h.sz;omega)
end Go.Xg
namespace Go.Im
open Go.Xp Go.Sp
def Ii (k:Int) (p:Src) (name:ae):Int:=match jX p.nodes p.fns 0 [] with | some (l,_)=>((jR k p name p.fns l:Nat):Int) | none=>0
theorem zx {k:Int} {p:Src} {name:ae} {l:List T} (h:Good p l):Ii k p name=((jR k p name p.fns l:Nat):Int):=by unfold Ii;rw [h.AB]
def tF (p:Src) (name:ae):Int × Int:=if (de p&&p.globals.contains name)=true then (Ii 2 p name,Ii 7 p name) else (0,0)
end Go.Im
namespace Go.Xg
open Go.RowKit Go.Xw Go.Proofs Tryz Go.Im
open GV (U)
open Go.Xp (T)
open Go.Sp (Src)
attribute [local irreducible] GW GL GO YG GC GA aU aW
theorem I3 (p:Src) (hw:b7 p<=1048576) (l:List T) (h:Go.Im.Good p l) (name:ae) (one two:Int) (Nc:one≠two) :
  GF prog 48 [.agg (aq p),.v (sv name),.v (ii one),.v (ii two)] [] (.tup [.v (ii ((jR one p name p.fns l:Nat):Int)),.v (ii ((jR two p name p.fns l:Nat):Int))]) []:=by
 obtain ⟨⟨a1,a2⟩,⟨b1,b2⟩,⟨c1,c2⟩,⟨d1,d2⟩⟩:=dU p
 have ki:(p.fns.map aw).length=p.fns.length:=by simp
 have aeD:=h.st.len;have aea:=h.st.few;have hlen:=h.len;refine ai func48 ntmps48 ?_;refine GW.wk (Wk.freeze (i:=0) rfl rfl rfl (aS _)) ?_;refine GW.wk (Wk.freeze (i:=1) rfl rfl rfl (aS _)) ?_;refine GW.wk (Wk.freeze (i:=2) rfl rfl rfl (aS _)) ?_;refine GW.wk (Wk.freeze (i:=3) rfl rfl rfl (aS _)) ?_;refine GW.range (p.fns.map aw).length (fun k fr Γ=>∃ u v,fr=[U,U,U,U,.box (aq p) 0,.box [.v (sv name)] 0,.box [.v (ii one)] 0,.box [.v (ii two)] 0,U,U,.loc 4 0,.loc 5 0,U,U,.sl 3 (p.fns.map aw),.v (ii ((p.fns.map aw).length:Int)),.v (ii (k:Nat)),U,U,U,U,U,U,U,U,U]/\Γ=[.gone,.gone,.gone,.gone,.box 3 [.v (ii (u:Nat))],.box 3 [.v (ii (v:Nat))]]/\u=jR one p name (p.fns.take k) (l.take k)/\v=jR two p name (p.fns.take k) (l.take k)) ?_ X ?_ ?_ ?_
 ·exact ⟨_,_,Wk.aH ao,0,0,rfl,rfl,by simp [jR],by simp [jR]⟩
 ·rintro k _ _ ⟨u,v,rfl,rfl,_⟩;exact dr
 ·rintro k _ _ au ⟨u,v,rfl,rfl,hu,hv⟩;rw [ki] at au;obtain ⟨f,hf⟩:∃ f,p.fns[k]?=some f:=⟨p.fns[k],by simp [au]⟩;obtain ⟨t,ht⟩:∃ t,l[k]?=some t:=⟨l[k]'X,bV _⟩;have hg:=h.fn hf ht;have W0:=hg.sz
  have oX:u<=800:=by
   have:=Dn one p name (p.fns.take k) (l.take k);have:=ku ht;omega
  have hv1:v<=800:=by
   have:=Dn two p name (p.fns.take k) (l.take k);have:=ku ht;omega
  have hE:=Yj p name one two 3 3 k f t (u,v) X (fun n hn=>by have:=(d2 n hn).2;omega) Nc hf (by have:=(c2 f (bo hf)).2.1;omega) hg.body hg.st X ⟨by show u+_<=_;omega,by show v+_<=_;omega⟩;rw [Z6 Nc] at hE;simp only at hE;unfold Lh at hE;rw [zF one p name hf ht,zF two p name hf ht,<-hu,<-hv];clear hu hv;refine D ?_;refine V [4,5] hE ?_;exact ⟨rfl,rfl,_,_,Wk.aH ao,_,_,rfl,rfl,rfl,rfl⟩
 ·rintro _ _ ⟨u,v,rfl,rfl,hu,hv⟩;rw [ki,c7,hlen,c7] at hu hv;rw [<-hu,<-hv];refine zcC ?_;refine aM (ax 0 4 .nil) ?_;refine aj ?_;exact sH
theorem ID (p:Src) (hw:b7 p<=1048576) (hn:ma p) (name:ae) (hl:name.length<=1048576) :
  GF prog 14 [.agg (aq p),.v (sv name)] [] (.tup [.v (ii (tF p name).1),.v (ii (tF p name).2)]) []:=by
 obtain ⟨⟨a1,a2⟩,⟨b1,b2⟩,⟨c1,c2⟩,⟨d1,d2⟩⟩:=dU p;have hG:=yJ p hw hn;have hC:=ke p.globals name X;unfold tF
 cases I:de p with
 | false =>
  rw [I] at hG;rw [ab zf8];refine ai func14 ntmps14 ?_;refine V [] hG ?_;exact mn
 | true =>
  rw [I] at hG
  cases G:p.globals.contains name with
  | false =>
   rw [G] at hC;rw [ab zf8];refine ai func14 ntmps14 ?_;refine V [] hG ?_;refine V [] hC ?_;exact mn
  | true =>
   rw [G] at hC;rw [ah (show (true&&true)=true from rfl)];obtain ⟨l,kQ⟩:=yK I;have hA:=I3 p hw l kQ name 2 7 aD;rw [zx kQ,zx kQ];refine ai func14 ntmps14 ?_;refine V [] hG ?_;refine V [] hC ?_;refine V [] hA ?_;exact mn
theorem D4 (p:Src) (hw:b7 p<=1048576) (hn:ma p) (fn:Int) :
  GC prog 15 [.agg (aq p),.v (ii fn)] [] fun g Δ=>∃ ad cp,g=.v (.slice ad (kW p fn).length cp)/\Δ=[.vech 9 1 (br (kW p fn)) (.slice ad (kW p fn).length cp)]:=by
 have hH:=zO p fn hw hn
 cases hh:eG p fn with
 | false =>
  rw [hh] at hH;rw [Kc hh];refine dh func15 ntmps15 ?_;refine GW.wk (Wk.gK 9 1) ?_;exact zci
 | true =>
  rw [hh] at hH;obtain ⟨i,l,f,t,rfl,h⟩:=mK hh;rw [F1 hh h];have hL:=PE p hw h;refine ai func15 ntmps15 ?_;refine V [] hH ?_;refine bA [] hL ?_;rintro _ _ ⟨ad,cp,rfl,rfl⟩;refine zas ?_;refine gL ?_;refine u0 1 rfl cB rfl ?_ ?_
  ·intro x hx;rw [xq hx];rfl
  ·exact zcZ
theorem SX (p:Src) (hw:b7 p<=1048576) {l:List T} {i:Nat} {f:Go.Sp.Fn} {t:T} (h:kM p l i f t) :
  GC prog 97 [.agg (aq p),.v (ii (i:Nat))] [] fun g Δ=>∃ ad cp,g=.v (.slice ad (f.params++dI t).length cp)/\Δ=[.vech 9 1 (br (f.params++dI t)) (.slice ad (f.params++dI t).length cp)]:=by
 obtain ⟨⟨a1,a2⟩,⟨b1,b2⟩,⟨c1,c2⟩,⟨d1,d2⟩⟩:=dU p;exact C8 p i f t (fun n hn=>by have:=(d2 n hn).2;omega) h.gf zgC h.body h.st (by have:=h.sz;omega)
theorem Oy (p:Src) (hw:b7 p<=1048576) (fn:Int) :
  GC prog 43 [.agg (aq p),.v (ii fn)] [] fun g Δ=>∃ ad cp,g=.v (.slice ad (kW p fn).length cp)/\Δ=[.vech 9 1 (br (kW p fn)) (.slice ad (kW p fn).length cp)]:=by
 have hG:=yI p hw
 have ki:(p.fns.map aw).length=p.fns.length:=by simp
 cases hh:eG p fn with
 | false =>
  rw [Kc hh];unfold eG at hh
  cases I:de p with
  | false =>
   rw [I] at hG;exact zcx
  | true =>
   rw [I] at hG hh
   by_cases G:0<=fn
   ·have q2:decide (fn < 0)=false:=by simpa using G
    have q3:decide (((p.fns.map aw).length:Int)<=fn)=true:=by
     rw [ki];simp [G] at hh;simpa using hh
    exact zcx
   ·have q2:decide (fn < 0)=true:=by simpa using G
    exact zcx
 | true =>
  obtain ⟨i,l,f,t,rfl,h⟩:=mK hh;rw [F1 hh h];rw [sQ hh] at hG;have hi:=(bB h.gf).1;have hL:=SX p hw h;have q2:decide ((i:Int) < 0)=false:=decide_eq_false X;have q3:decide (((p.fns.map aw).length:Int)<=(i:Int))=false:=decide_eq_false zg3;refine ai func43 ntmps43 ?_;refine V [] hG ?_;refine bA [] hL ?_;rintro _ _ ⟨ad,cp,rfl,rfl⟩;refine zas ?_;refine gL ?_;refine u0 1 rfl cB rfl ?_ ?_
  ·intro x hx;rw [xq hx];rfl
  ·exact zcZ
end Go.Xg
namespace Go.Im
open Go.Xp Go.Sp
theorem UY {p:Src} (h:de p=true):∀ f∈p.fns,f.params.length<=40:=by
 unfold de at h;rw [aK] at h;obtain ⟨hf,h⟩:=h;obtain ⟨l,hl⟩:=sM hf;rw [hl.AB] at h;simp only [decide_eq_true_eq] at h;unfold Ed at h;split at h
 ·cases h
 split at h
 ·cases h
 rename_i G
 have h3:jF p=false:=by simpa using G
 unfold jF at h3;simp only [Bool.or_eq_false_iff,List.any_eq_false,decide_eq_true_eq] at h3;intro f hf;have:=h3.2.2 f hf;omega
theorem F0 {p:Src} {fn:Int}:(kW p fn).length<=840:=by
 cases hh:eG p fn with
 | false=>rw [Kc hh];simp
 | true =>
  have hg:de p=true:=by
   unfold eG at hh;simp only [aK,decide_eq_true_eq] at hh;exact hh.1.1
  obtain ⟨i,l,f,t,rfl,h⟩:=mK hh;rw [F1 hh h,aL];have:=h.vars;have:=UY hg f (bo h.gf);omega
theorem Ln (p:Src) (fn:Int):yl p fn (kW p fn).length=nI p fn:=by unfold yl nI;rw [c7]
end Go.Im
namespace Go.Xg
open Go.RowKit Go.Xw Go.Proofs Tryz Go.Im
open GV (U)
open Go.Sp (Src)
attribute [local irreducible] GW GL GO YG GC GA aU aW
theorem Up (p:Src) (hw:b7 p<=1048576) (fn:Int) (name:ae):GF prog 44 [.agg (aq p),.v (ii fn),.v (sv name)] [] (.v (ii (lQ [2] p fn name))) []:=by
 have hH:=U3 p fn hw
 cases hh:eG p fn with
 | false =>
  rw [hh] at hH;rw [Dp hh];exact Qt p fn name hH
 | true =>
  rw [hh] at hH;obtain ⟨i,l,f,t,rfl,h⟩:=mK hh;rw [A0 (sQ hh) h,<-h.acX aD];exact OB p i name _ hH (X8 p hw h) (by rw [Lf];have:=h.sz;omega)
theorem Uu (p:Src) (hw:b7 p<=1048576) (hn:ma p) (fn:Int) :
  GC prog 10 [.agg (aq p),.v (ii fn)] [] fun g Δ=>∃ ad cp,g=.v (.slice ad (nI p fn).length cp)/\Δ=[.vech 9 1 (br (nI p fn)) (.slice ad (nI p fn).length cp)]:=by
 have hL:=D4 p hw hn fn;have nS:=@F0 p fn
 have dS:((kW p fn).map fun s=>[GV.v (sv s)]).length=(kW p fn).length:=by simp
 rw [<-Ln];refine dh func10 ntmps10 ?_;refine GW.wk (Wk.gK 9 1) ?_;refine zd9 ?_;refine bA [] hL ?_;rintro _ _ ⟨ad,cp,rfl,rfl⟩;refine bF ?_;refine GL.wk (Wk.tS (t:=10) (i:=2) rfl rfl rfl) ?_;refine zaN ?_;refine GW.range ((kW p fn).map fun s=>[GV.v (sv s)]).length (fun k fr Γ=>∃ a c n S o B,fr=[U,.v (ii fn),.loc 1 0,U,U,.v (.slice a n c),U,U,U,U,strs (kW p fn),.v (ii (((kW p fn).map fun s=>[GV.v (sv s)]).length:Int)),.v (ii (k:Nat)),U,U,U,U,U,U,U,U,U,U,U,U,U,U]/\Γ=[.vech 9 1 S (.slice a n c),.box 28 (aq p),B]/\S.length=n/\S=br o/\o=yl p fn k) ?_ X ?_ ?_ ?_
 ·exact ⟨_,_,Wk.aH ao,none,0,0,[],[],_,rfl,rfl,rfl,rfl,rfl⟩
 ·rintro k _ _ ⟨a,c,n,S,o,B,rfl,rfl,_⟩;exact dr
 ·rintro k _ _ au ⟨a,c,n,S,o,B,rfl,rfl,fG,hS,ho⟩;rw [dS] at au;obtain ⟨x,hx⟩:∃ x,(kW p fn)[k]?=some x:=⟨(kW p fn)[k],by simp [au]⟩
  have Nh:((kW p fn).map fun s=>[GV.v (sv s)])[k]?=some [.v (sv x)]:=by rw [bp,hx];rfl
  have kU:=HZ hx;have hR:=IJ p fn x _ (Dq p hw hn fn x [2] aD)
  have wW:o.length<=840:=by have:=Lo p fn k;rw [ho];omega
  have uh:n<=840:=by rw [<-fG,hS,mO];exact wW
  rw [kU,<-ho];clear kU ho
  cases I:(lQ [2] p fn x==0) with
  | true =>
   rw [ah rfl];generalize lQ [2] p fn x=z at *;refine zdF ?_;refine za4 ?_;intro a2 c2;refine zaq ?_;exact ⟨rfl,rfl,_,_,Wk.aH ao,a2,c2,_,_,o++[x],_,rfl,rfl,by simp [fG],by rw [hS];simp [br],rfl⟩
  | false =>
   rw [ab aD];generalize lQ [2] p fn x=z at *;refine zdF ?_;exact ⟨rfl,rfl,_,_,Wk.aH ao,a,c,n,S,o,_,rfl,rfl,fG,hS,rfl⟩
 ·rintro _ _ ⟨a,c,n,S,o,B,rfl,rfl,fG,hS,ho⟩;rw [dS] at ho;rw [<-ho];clear ho
  have cS:n=o.length:=by rw [<-fG,hS,mO]
  exact za1
theorem Ut (p:Src) (hw:b7 p<=1048576) (fn:Int) :
  GF prog 11 [.agg (aq p),.v (ii fn)] [] (strs (nI p fn)) []:=by
 have hL:=Oy p hw fn;have nS:=@F0 p fn
 have dS:((kW p fn).map fun s=>[GV.v (sv s)]).length=(kW p fn).length:=by simp
 rw [<-Ln];refine ai func11 ntmps11 ?_;refine lL ?_;refine D ?_;refine bA [] hL ?_;rintro _ _ ⟨ad,cp,rfl,rfl⟩;refine bF ?_;refine GL.wk (Wk.tS (t:=11) (i:=2) rfl rfl rfl) ?_;refine zaN ?_;refine GW.range ((kW p fn).map fun s=>[GV.v (sv s)]).length (fun k fr Γ=>∃ n S o B,fr=[U,.v (ii fn),.loc 0 0,U,U,.vec 1 n,U,U,U,U,U,strs (kW p fn),.v (ii (((kW p fn).map fun s=>[GV.v (sv s)]).length:Int)),.v (ii (k:Nat)),U,U,U,U,U,U,U,U,U,U,U,U,U,U]/\Γ=[.box 28 (aq p),.vec 9 1 0 S,B]/\S.length=n/\S=br o/\o=yl p fn k) ?_ X ?_ ?_ ?_
 ·exact ⟨_,_,Wk.aH ao,0,[],[],_,rfl,rfl,rfl,rfl,rfl⟩
 ·rintro k _ _ ⟨n,S,o,B,rfl,rfl,_⟩;exact dr
 ·rintro k _ _ au ⟨n,S,o,B,rfl,rfl,fG,hS,ho⟩;rw [dS] at au;obtain ⟨x,hx⟩:∃ x,(kW p fn)[k]?=some x:=⟨(kW p fn)[k],by simp [au]⟩
  have Nh:((kW p fn).map fun s=>[GV.v (sv s)])[k]?=some [.v (sv x)]:=by rw [bp,hx];rfl
  have kU:=HZ hx;have hR:=Up p hw fn x
  have wW:o.length<=840:=by have:=Lo p fn k;rw [ho];omega
  have uh:n<=840:=by rw [<-fG,hS,mO];exact wW
  have hb:n+1<=9223372036854775807/\(n+1) * 16<=140737488355328:=by omega
  rw [kU,<-ho];clear kU ho
  cases I:(lQ [2] p fn x==0) with
  | true =>
   rw [ah rfl];generalize lQ [2] p fn x=z at *;refine zdF ?_;refine zby ?_;exact ⟨rfl,rfl,_,_,Wk.aH ao,_,_,o++[x],_,rfl,rfl,by simp [fG],by rw [hS];simp [br],rfl⟩
  | false =>
   rw [ab aD];generalize lQ [2] p fn x=z at *;refine zdF ?_;exact ⟨rfl,rfl,_,_,Wk.aH ao,_,_,o,_,rfl,rfl,fG,hS,rfl⟩
 ·rintro _ _ ⟨n,S,o,B,rfl,rfl,fG,hS,ho⟩;rw [dS] at ho;rw [<-ho];clear ho;subst fG;refine zcC ?_;refine GW.wk (Wk.jY (t:=4) rfl rfl rfl rfl) ?_;refine bY ?_;exact ⟨by rw [hS];rfl,rfl⟩
end Go.Xg
namespace Go.Im
open Go.Xp Go.Sp
theorem YC {name:ae} {a b:Int} (h:a≠b) (n:Nd) (ls:List ae):(if pI name a n ls=true then 1 else 0)+(if pI name b n ls=true then 1 else 0)<=1:=by
 unfold pI
 by_cases I:n.kind=a
 ·have G:(n.kind==b)=false:=by rw [I];simpa using h
  exact zez
 ·have G:(n.kind==a)=false:=by simpa using I
  exact zez
mutual
theorem MD {name:ae} {a b:Int} (h:a≠b):∀ (t:T) (ls:List ae),mb (pI name a) t ls+mb (pI name b) t ls<=aQ t
 | .mk n l,ls=>by
  have I:=YC (name:=name) h n ls;have G:=I0 (name:=name) h l ls;rw [mb,mb,aQ];omega
theorem I0 {name:ae} {a b:Int} (h:a≠b):∀ (l:List T) (ls:List ae),jr (pI name a) l ls+jr (pI name b) l ls<=aB l
 | [],ls=>by rw [jr,jr];omega
 | t::r,ls=>by
  have I:=MD (name:=name) h t ls;have G:=I0 (name:=name) h r (ls++dI t);rw [jr,jr,aB];omega
end
theorem IY {p:Src} {name:ae} {a b:Int} (h:a≠b):∀ (fs:List Go.Sp.Fn) (l:List T),jR a p name fs l+jR b p name fs l<=aB l
 | [],l=>by unfold jR;omega
 | f::r,[]=>by unfold jR;omega
 | f::r,t::l=>by
  have I:=MD (name:=name) h t f.params;have G:=IY (p:=p) (name:=name) h r l;rw [jR,jR,aB];omega
theorem UX (p:Src) (name:ae):0<=(tF p name).1/\0<=(tF p name).2/\(tF p name).1+(tF p name).2<=(p.nodes.length:Int):=by
 unfold tF
 cases hg:de p with
 | false=>rw [ab zf8];exact zcb
 | true =>
  split
  ·obtain ⟨l,hl⟩:=yK hg;rw [zx hl,zx hl];have I:=IY (p:=p) (name:=name) (a:=2) (b:=7) (by decide) p.fns l;have G:=hl.st.len;exact zcb
  ·exact zcb
theorem abq {p:Src} {fn:Int} {s:ae} (h:s∈nI p fn):lQ [2] p fn s=0/\0<=lQ [7,13] p fn s:=by
 unfold nI at h;obtain ⟨I,G⟩:=List.mem_filter.1 h
 have G:lQ [2] p fn s=0:=by simpa using G
 refine ⟨G,?_⟩
 cases hh:eG p fn with
 | false=>rw [Dp hh] at G;omega
 | true =>
  obtain ⟨i,l,f,t,rfl,hf⟩:=mK hh;rw [A0 (Go.Xg.sQ hh) hf];omega
theorem ZA (p:Src) (fn:Int):(nI p fn).length<=(kW p fn).length:=List.length_filter_le _ _
end Go.Im
namespace Go.Xg
open Go.RowKit Go.Xw Go.Proofs Tryz Go.Sp Go.Im
open GV (U)
attribute [local irreducible] GW GL GO YG GC GA aU aW
theorem Uh (code:ae):GF prog 3 [.sl 1 (bN code)] [] (.v (.bool true)) []:=by
 have kO:=vf code
 rcases Nat.lt_or_ge 1048576 code.length with au | kP
 ·have hd:decide ((1048576:Int) < ((bN code).length:Int))=true:=decide_eq_true X;refine ai func3 ntmps3 ?_;exact al
 ·have hd:decide ((1048576:Int) < ((bN code).length:Int))=false:=decide_eq_false X;refine ai func3 ntmps3 ?_;refine bA [] (Iz code X) ?_;rintro _ _ ⟨rfl,p,fn,hw,hn,hz,rfl⟩;refine bF ?_;have hU:=GC.Iu (Uu p hw hn fn);have hG:=Ut p hw fn;have hL:=GC.Iu (D4 p hw hn fn);have ab0:=sF p;have JZ:=ZA p fn;have nS:=@F0 p fn;have fM:(br (nI p fn)).length=(nI p fn).length:=bM _;have dS:(br (kW p fn)).length=(kW p fn).length:=bM _;have Hk:(p.globals.map fun s=>[GV.v (sv s)]).length=p.globals.length:=bM _;have hmn:(p.nodes.map aV).length=p.nodes.length:=bM _
  have cj:(((br (nI p fn)).length:Int) != ((br (nI p fn)).length:Int))=false:=by simp
  refine D ?_;refine V [] hU ?_;refine V [] hG ?_;refine GW.range (br (nI p fn)).length (fun k fr Γ=>fr=[U,U,U,.loc 0 0,.v (ii fn),.sl 1 (br (nI p fn)),U,U,U,U,U,U,U,U,U,U,U,U,U,U,U,U,U,U,U,U,U,U,U,U,.sl 1 (br (nI p fn)),.v (ii ((br (nI p fn)).length:Int)),.v (ii (k:Nat)),U,U,U,U,U,U,U,U,U,U,U,U,U,U,U,U,U,U,U,U,U,U,U,U,U,U,U,U,U,U,U,U,U,U,U,U,U,U,U,U,U,U,U,U,U,U,U,U,U,U,U,U]/\Γ=[.box 28 (aq p)]) ?_ X ?_ ?_ ?_
  ·exact jo
  ·rintro k _ _ ⟨rfl,rfl⟩;exact dr
  ·rintro k _ _ hk ⟨rfl,rfl⟩;rw [fM] at hk;obtain ⟨s,hs⟩:∃ s,(nI p fn)[k]?=some s:=⟨(nI p fn)[k],bV hk⟩
   have hr:(br (nI p fn))[k]?=some [.v (sv s)]:=by unfold br;rw [bp,hs];rfl
   obtain ⟨u1,u2⟩:=abq (bo hs);have hR:=IJ p fn s _ (Dq p hw hn fn s [2] aD);have hW:=Qx p fn s _ (Dq p hw hn fn s [7,13] aD);rw [u1] at hR;generalize lQ [7,13] p fn s=z at *;have Np:decide (z < (0:Int))=false:=decide_eq_false X;refine zdF ?_;refine V [] hW ?_;exact zbm
  ·rintro _ _ ⟨rfl,rfl⟩;refine zcC ?_;refine GW.range (p.globals.map fun s=>[GV.v (sv s)]).length (fun k fr Γ=>fr=[U,U,U,.loc 0 0,.v (ii fn),.sl 1 (br (nI p fn)),U,U,U,U,U,U,U,U,U,U,U,U,U,U,U,U,U,U,U,U,U,U,U,U,U,U,U,U,U,U,U,U,U,U,U,U,U,U,U,U,U,U,U,U,strs p.globals,.v (ii ((p.globals.map fun s=>[GV.v (sv s)]).length:Int)),.v (ii (k:Nat)),U,U,U,U,U,U,U,U,U,U,U,U,U,U,U,U,U,U,U,U,U,U,U,U,U,U,U,U,U,U,U,U]/\Γ=[.box 28 (aq p)]) ?_ X ?_ ?_ ?_
   ·exact jo
   ·rintro k _ _ ⟨rfl,rfl⟩;exact dr
   ·rintro k _ _ hk ⟨rfl,rfl⟩;rw [Hk] at hk;obtain ⟨s,hs⟩:∃ s,p.globals[k]?=some s:=⟨p.globals[k],bV hk⟩
    have hr:(p.globals.map fun s=>[GV.v (sv s)])[k]?=some [.v (sv s)]:=by rw [bp,hs];rfl
    have nB:s.length<=1048576:=by have:=(dU p).1.2 s (bo hs);omega
    have hU:=ID p hw hn s nB;obtain ⟨g1,g2,g3⟩:=UX p s;generalize tF p s=gu at *;obtain ⟨r,w⟩:=gu;simp only at hU g1 g2 g3;have e1:decide (r < (0:Int))=false:=decide_eq_false X;have e2:decide (w < (0:Int))=false:=decide_eq_false X;have e3:decide (((p.nodes.map aV).length:Int) < r+w)=false:=decide_eq_false X;refine D ?_;refine V [] hU ?_;exact zbm
   ·rintro _ _ ⟨rfl,rfl⟩;refine bc ?_;have DB:decide (((br (nI p fn)).length:Int)<=((br (kW p fn)).length:Int))=true:=decide_eq_true X;refine D ?_;refine V [] hL ?_;exact zeH
end Go.Xg
