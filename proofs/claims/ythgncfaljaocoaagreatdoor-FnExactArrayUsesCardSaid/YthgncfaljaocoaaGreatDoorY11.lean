/- Part 11 of proofs that are told in their last texts. -/
import Derived.Test.YthgncfaljaocoaaGreatDoorY9
import Derived.Test.YthgncfaljaocoaaGreatDoorY6
open List (length_map take_length take_succ_cons)
set_option linter.unusedVariables false
set_option linter.unusedSimpArgs false
set_option maxRecDepth 100000
set_option maxHeartbeats 4000000
namespace Go.Im
open Go.Xp Go.Sp
def fP (name:ae) (one two:Int) (s:Nat × Nat) (_:Nat) (t:T) (ls:List ae):Nat × Nat :=
 if (t.n.s != name || ls.contains name)=true then s else if (t.n.kind==one)=true then (s.1+1,s.2) else if (t.n.kind==two)=true then (s.1,s.2+1) else s
theorem Pd {name:ae} {one two:Int} (h:one≠two) (s:Nat × Nat) (a:Nat) (t:T) (ls:List ae):fP name one two s a t ls=(s.1+(if ll name one t.n ls=true then 1 else 0),s.2+(if ll name two t.n ls=true then 1 else 0)):=by
 unfold fP ll
 cases (t.n.s != name || ls.contains name) with
 | true=>simp
 | false =>
  by_cases h1:t.n.kind=one
  ·subst h1;simp [h]
  ·by_cases h2:t.n.kind=two
   ·subst h2;simp [h1]
   ·simp [h1,h2]
theorem Pe (name:ae) (one two:Int) (s:Nat × Nat) (a:Nat) (t:T) (ls:List ae):(fP name one two s a t ls).1<=s.1+1/\(fP name one two s a t ls).2<=s.2+1:=by
 unfold fP;split
 ·omega
 split
 ·simp
 split
 ·simp
 ·omega
mutual
theorem Sc {name:ae} {one two:Int} (h:one≠two):∀ (t:T) (a:Nat) (s:Nat × Nat) (ls:List ae),(eR (fP name one two) t a s ls).1=(s.1+jl (ll name one) t ls,s.2+jl (ll name two) t ls)
 | .mk n l,a,s,ls=>by
  rw [eR,jl,jl];simp only;rw [I4 h l,Pd h];simp only [Nat.add_assoc];rfl
theorem I4 {name:ae} {one two:Int} (h:one≠two):∀ (l:List T) (a:Nat) (s:Nat × Nat) (ls:List ae),(bU (fP name one two) l a s ls).1=(s.1+ia (ll name one) l ls,s.2+ia (ll name two) l ls)
 | [],a,s,ls=>by rw [bU,ia,ia];rfl
 | t::r,a,s,ls=>by rw [bU,I4 h r,Sc h t,yj,ia,ia];simp only [Nat.add_assoc]
end
theorem NJ {name:ae} {one two:Int} (h:one≠two) (l:List T) (a:Nat) (s:Nat × Nat) (ls:List ae):(bU (fP name one two) l a s ls).1.1<=s.1+aw l/\(bU (fP name one two) l a s ls).1.2<=s.2+aw l:=by
 rw [I4 h];have:=uQ (ll name one) l ls;have:=uQ (ll name two) l ls;simp only;omega
theorem vR (k:Int) (p:Src) (name:ae):∀ (fs:List Go.Sp.Fn) (l:List T),iF k p name fs l<=aw l
 | [],l=>by unfold iF;exact Nat.zero_le _
 | f::r,[]=>by unfold iF;exact Nat.zero_le _
 | f::r,t::l=>by
  have:=vR k p name r l;have:=D1 (ll name k) t f.params;rw [iF,aw];omega
theorem rP (k:Int) (p:Src) (name:ae):∀ {fs:List Go.Sp.Fn} {l:List T} {i:Nat} {f:Go.Sp.Fn} {t:T},fs[i]?=some f->l[i]?=some t->iF k p name (fs.take (i+1)) (l.take (i+1))=iF k p name (fs.take i) (l.take i)+jl (ll name k) t f.params
 | g::r,u::l,0,f,t,h1,h2=>by
  cases h1;cases h2
  simp [iF]
 | g::r,u::l,i+1,f,t,h1,h2=>by
  have:=rP k p name (fs:=r) (l:=l) (i:=i) (by simpa using h1) (by simpa using h2);rw [take_succ_cons,take_succ_cons,iF,this,take_succ_cons,take_succ_cons,iF];omega
 | [],_,i,f,t,h1,h2=>by simp at h1
 | g::r,[],i,f,t,h1,h2=>by simp at h2
end Go.Im
namespace Go.Xg
open Go.RowKit Go.Xw Go.Proofs
open Go.Xp (Nd T Ar aB aw)
open Go.Sp (Src)
open Go.Im
attribute [local irreducible] GW GL GO YG GC GA aQ aR
theorem RI (p:Src) (name:ae) (one two:Int) (a:Nat) (n:Nd) (l:List T) (ls:List ae) (s:Nat × Nat) (E1 E5:TypeId) (ad:Option Addr) (cp:Nat) (hn:p.nodes[a]?=some n) (eA:ls.length<=1099511627776) (hs:s.1<=1099511627776/\s.2<=1099511627776) :
  GF Tryz.prog 75 [.v (ii (a:Nat)),.v (.slice ad ls.length cp),.box (ak p) 0,.box [.v (sv name)] 0,.box [.v (ii one)] 0,.loc 0 0,.box [.v (ii two)] 0,.loc 1 0] [.box E1 [.v (ii (s.1:Nat))],.box E5 [.v (ii (s.2:Nat))],.vech 9 1 (aX ls) (.slice ad ls.length cp)] (.tup [])
   [.box E1 [.v (ii ((fP name one two s a (.mk n l) ls).1:Nat))],.box E5 [.v (ii ((fP name one two s a (.mk n l) ls).2:Nat))],.vech 9 1 (aX ls) (.slice ad ls.length cp)]:=by
 have hr:=fV hn;have hL:=gz ls name eA
 have e:fP name one two s a (.mk n l) ls=if (n.s != name || ls.contains name)=true then s else if (n.kind==one)=true then (s.1+1,s.2) else if (n.kind==two)=true then (s.1,s.2+1) else s:=rfl
 obtain ⟨sa,sb⟩:=s;simp only at hs e;rw [e];unfold au at hr;refine cM Tryz.func75 Tryz.ntmps75 ?_
 cases h1:(n.s != name) with
 | true =>
  rw [if_pos (by simp)];have cr:(!(n.s==name))=true:=h1;exact eu
 | false =>
  have cr:(!(n.s==name))=false:=h1
  cases h2:ls.contains name with
  | true =>
   rw [h2] at hL;rw [if_pos (by simp)];refine ab ?_;refine GL.borrow hL (fun B K β w l hI hF=>fE (A:=[_,_]) (C:=[_]) hI hF rfl rfl) ?_;refine bZ ?_;exact eu
  | false =>
   rw [h2] at hL;rw [if_neg (by simp)]
   cases h3:(n.kind==one) with
   | true =>
    rw [if_pos rfl];refine ab ?_;refine GL.borrow hL (fun B K β w l hI hF=>fE (A:=[_,_]) (C:=[_]) hI hF rfl rfl) ?_;refine bZ ?_;exact eu
   | false =>
    rw [if_neg (by decide)]
    cases h4:(n.kind==two) with
    | true =>
     rw [if_pos rfl];refine ab ?_;refine GL.borrow hL (fun B K β w l hI hF=>fE (A:=[_,_]) (C:=[_]) hI hF rfl rfl) ?_;refine bZ ?_;exact eu
    | false =>
     rw [if_neg (by decide)];refine ab ?_;refine GL.borrow hL (fun B K β w l hI hF=>fE (A:=[_,_]) (C:=[_]) hI hF rfl rfl) ?_;refine bZ ?_;exact eu
end Go.Xg
namespace Go.Xg
open Go.RowKit Go.Xw Go.Proofs
open Go.Xp (Nd T Ar aB aw cQ)
open Go.Sp (Src)
open Go.Im
attribute [local irreducible] GW GL GO YG GC GA aQ aR
def FP (p:Src) (name:ae) (one two:Int):GV:=.fn (.func 75) [] [.box (ak p) 0,.box [.v (sv name)] 0,.box [.v (ii one)] 0,.loc 0 0,.box [.v (ii two)] 0,.loc 1 0]
def Qh (p:Src):GV:=.fn (.func 84) [] [.loc 2 0,.loc 3 0,.box (ak p) 0,.loc 4 0]
def Df (p:Src) (name:ae) (one two:Int) (E1 E5 E2 E3 E4:TypeId) (s:Nat × Nat) (ls:List ae) (ad:Option Addr) (cp:Nat):List Ob :=
 [.box E1 [.v (ii (s.1:Nat))],.box E5 [.v (ii (s.2:Nat))],.box E2 [FP p name one two],.box E3 [.v (.slice ad ls.length cp)],.box E4 [Qh p],.vech 9 1 (aX ls) (.slice ad ls.length cp)]
theorem Pa (p:Src) (name:ae) (one two:Int) (E1 E5 E2 E3 E4:TypeId) (hp:p.nodes.length<=1048576) (ef:∀ n∈p.nodes,n.kids.length<=1099511627776) (HC:one≠two):∀ (N:Nat) (t:T),aB t<=N->∀ (a:Nat) (s:Nat × Nat) (ls:List ae) (ad:Option Addr) (cp:Nat),df p.nodes a t->ls.length+aB t<=8388608->s.1+aB t<=8388608/\s.2+aB t<=8388608 ->
  GC Tryz.prog 84 [.v (ii (a:Nat)),.loc 2 0,.loc 3 0,.box (ak p) 0,.loc 4 0] (Df p name one two E1 E5 E2 E3 E4 s ls ad cp) fun g Δ=>g=.tup []/\∃ gR gT,Δ=Df p name one two E1 E5 E2 E3 E4 (eR (fP name one two) t a s ls).1 (eR (fP name one two) t a s ls).2 gR gT:=by
 intro N
 induction N with
 | zero=>intro t h;have:=gO t;omega
 | succ N ih =>
 intro t hN a s ls ad cp bq eA hs
 cases t with
 | mk n l =>
 rw [Go.Xp.aB] at hN eA hs;have NY:=bq;rw [df] at bq;obtain ⟨hn,hk,rj⟩:=bq;rw [eR];have hr:=fV hn;have nf:=ef n (List.mem_of_getElem? hn);have ht:=RI p name one two a n l ls s E1 E5 ad cp hn (by omega) (by omega);have PM:=Pe name one two s a (.mk n l) ls;generalize eL:(fP name one two) s a (.mk n l) ls=s1 at *
 have pz:n.kids.length=l.length:=by rw [hk,cQ]
 unfold au at hr;unfold Df FP Qh;refine ah Tryz.func84 Tryz.ntmps84 ?_;refine GL.nG [0,1,5] ht rfl rfl rfl (by repeat (first | exact trivial | refine ⟨rfl,?_⟩)) ?_;rintro _ _ ⟨rfl,rfl⟩;refine cU ?_;refine ab ?_;refine GW.range (n.kids.map fun i=>[GV.v (ii i)]).length (fun k fr Γ=>∃ gR gT,fr=[.v (ii (a:Nat)),.loc 2 0,.loc 3 0,.box (ak p) 0,.loc 4 0,.any,.any,.any,.any,.any,.any,.any,.any,.any,.any,.any,.any,ints n.kids,.v (ii ((n.kids.map fun i=>[GV.v (ii i)]).length:Int)),.v (ii (k:Nat)),.any,.any,.any,.any,.any,.any,.any,.any,.any,.any,.any,.any,.any,.any,.any,.any,.any,.any,.any,.any,.any,.any,.any]/\Γ=Df p name one two E1 E5 E2 E3 E4 (bU (fP name one two) (l.take k) (a+1) s1 ls).1 (bU (fP name one two) (l.take k) (a+1) s1 ls).2 gR gT) ?_ (by rw [length_map];omega) ?_ ?_ ?_
 ·exact ⟨_,_,Wk.av aj,ad,cp,rfl,rfl⟩
 ·rintro k _ _ ⟨ad,cp,rfl,rfl⟩;exact ⟨rfl,rfl,rfl⟩
 ·rintro k _ _ ao ⟨ad,cp,rfl,rfl⟩;rw [length_map,pz] at ao;obtain ⟨u,hu⟩:∃ u,l[k]?=some u:=⟨l[k],by simp [ao]⟩;have iC:=rm (n:=a+1) hu;rw [<-hk] at iC;have tS:=mq iC;have b6:=jd hu;have EL:df p.nodes (a+1+aw (l.take k)) u:=dh.ix l (a+1) k u rj hu
  have hlen:(bU (fP name one two) (l.take k) (a+1) s1 ls).2.length<=ls.length+aw (l.take k):=by
   rw [kJ,List.length_append];have:=gY (l.take k);omega
  have VS:=NJ (name:=name) HC (l.take k) (a+1) s1 ls;rw [vV _ hu];generalize (bU (fP name one two) (l.take k) (a+1) s1 ls).1=s2 at *;generalize (bU (fP name one two) (l.take k) (a+1) s1 ls).2=ls2 at *;have hv:=ih u (by omega) (a+1+aw (l.take k)) s2 ls2 ad cp EL (by omega) (by omega);unfold Df FP Qh at hv |-;refine ab ?_;refine GL.nG [0,1,2,3,4,5] hv rfl rfl rfl (by repeat (first | exact trivial | refine ⟨rfl,?_⟩)) ?_;rintro _ _ ⟨rfl,gR,gT,rfl⟩;refine cU ?_;refine ab ?_;exact ⟨rfl,rfl,_,_,Wk.av aj,gR,gT,rfl,rfl⟩
 ·rintro _ _ ⟨ad,cp,rfl,rfl⟩;rw [length_map,pz,take_length]
  have hlen:(bU (fP name one two) l (a+1) s1 ls).2.length<=ls.length+aw l:=by
   rw [kJ,List.length_append];have:=gY l;omega
  generalize (bU (fP name one two) l (a+1) s1 ls).1=s2 at *;generalize (bU (fP name one two) l (a+1) s1 ls).2=ls2 at *;have Ex:(aX ls2).length=ls2.length:=kc ls2;unfold Df FP Qh;refine aJ ?_
  cases hv:(n.kind==13) with
  | false =>
   rw [if_neg (by simpa using hv)];refine ab ?_;refine cl ?_;exact ⟨rfl,ad,cp,rfl⟩
  | true =>
   rw [if_pos (by simpa using hv)];refine ab ?_;refine GW.draw (.q 0 (.q 1 (.q 2 (.q 3 (.q 4 (.q 5 (.q 6 (.a 7 (.a 8 (.a 9 .nil)))))))))) (by kernel_rfl) (by kernel_rfl) ?_;refine ai ?_;refine dk ?_;refine ai ?_;refine OA rfl rfl (GL.nW 5 (news:=[[.v (sv n.s)]]) rfl rfl rfl (by first | rfl | assumption) rfl rfl (by refine ⟨?_,?_⟩;(· show _+1<=_;omega);(· show (_+1) * _<=_;omega)) ?_);intro mU mW;refine c8 ?_;refine ai ?_;refine ab ?_;refine cl ?_;exact ⟨rfl,mU,mW,by simp [aX]⟩
theorem QF (p:Src) (name:ae) (one two:Int) (E1 E5:TypeId) (i:Nat) (f:Go.Sp.Fn) (t:T) (s:Nat × Nat) (hp:p.nodes.length<=1048576) (ef:∀ n∈p.nodes,n.kids.length<=1099511627776) (HC:one≠two)
  (hf:p.fns[i]?=some f) (nj:f.params.length<=1048576) (hb:0<=f.body) (bq:df p.nodes f.body.toNat t) (b6:aB t<=1048576) (hs:s.1+aB t<=8388608/\s.2+aB t<=8388608) :
  GF Tryz.prog 65 [.agg (ak p),.v (ii (i:Nat)),FP p name one two] [.box E1 [.v (ii (s.1:Nat))],.box E5 [.v (ii (s.2:Nat))]] (.tup []) [.box E1 [.v (ii ((eR (fP name one two) t f.body.toNat s f.params).1.1:Nat))],.box E5 [.v (ii ((eR (fP name one two) t f.body.toNat s f.params).1.2:Nat))]]:=by
 have hr:(p.fns.map aq)[i]?=some (aq f):=by rw [List.getElem?_map,hf];rfl
 have ct:(f.params.map fun s=>[GV.v (sv s)]).length=f.params.length:=by simp
 have eH:=oI f.params;obtain ⟨b,ra⟩:∃ b:Nat,f.body=(b:Int):=⟨f.body.toNat,by omega⟩;rw [ra,Int.toNat_natCast] at bq |-;unfold aq at hr;rw [ra] at hr;unfold FP;refine cM Tryz.func65 Tryz.ntmps65 ?_;refine gP ?_;refine GL.wk (Wk.freeze (i:=2) rfl rfl rfl (Nat.le_refl _)) ?_;refine GN (by simp only [mx,lS];rfl) ?_;refine GL.wk (Wk.av (bM:=[.any,.v (ii (i:Nat)),.any,.box (ak p) 0,.any,.loc 3 0,.any,.any,.any,.any,.any,.any,.any,strs f.params,.any,.any,.any,.any,.any,.any,.any,.any,.any,.any]) aj) ?_;refine GL.wk (Wk.lY 9 1) ?_;refine GL.yb 4 rfl rfl rfl rfl eH (by refine ⟨?_,?_⟩;(· rw [ct];omega);(· rw [ct];omega)) ?_;intro ad cp;rw [ct];refine bZ ?_;simp only [List.nil_append,List.length_nil,Nat.zero_add];refine ab ?_;refine GW.D5 (bM:=[.any,.v (ii (i:Nat)),.any,.box (ak p) 0,.any,.loc 3 0,.loc 5 0,.loc 6 0,.any,.any,.any,.any,.any,.any,.any,.any,.any,.any,.any,.any,.any,.any,.any,.any]) (aD:=[.box E1 [.v (ii (s.1:Nat))],.box E5 [.v (ii (s.2:Nat))],.gone,.box _ [.fn (.func 75) [] [.box (ak p) 0,.box [.v (sv name)] 0,.box [.v (ii one)] 0,.loc 0 0,.box [.v (ii two)] 0,.loc 1 0]],.vech 9 1 (aX f.params) (.slice ad f.params.length cp),.box _ [.v (.slice ad f.params.length cp)],.box _ [.fn (.func 84) [] [.loc 3 0,.loc 5 0,.box (ak p) 0,.loc 6 0]]]) aj rfl ?_;refine GW.draw (.q 0 (.q 1 (.q 2 (.q 3 (.q 4 (.q 5 (.q 6 (.a 7 .nil)))))))) (by kernel_rfl) (by kernel_rfl) ?_;refine ai ?_;have hv:=Pa p name one two E1 E5;refine OA rfl rfl (GL.nG [0,1,3,5,6,4] (hv _ _ _ hp ef HC _ t (Nat.le_refl _) b s f.params ad cp bq (by omega) hs) rfl rfl rfl (by repeat (first | exact trivial | refine ⟨rfl,?_⟩)) ?_);rintro _ _ ⟨rfl,gR,gT,rfl⟩;refine ⟨by simp [Df],?_⟩;unfold Df;refine c8 ?_;refine ai ?_;exact eu
end Go.Xg
namespace Go.Im
open Go.Xp Go.Sp
def ya (k:Int) (p:Src) (name:ae):Int:=match iq p.nodes p.fns 0 [] with | some (l,_)=>((iF k p name p.fns l:Nat):Int) | none=>0
theorem mV {k:Int} {p:Src} {name:ae} {l:List T} (h:Good p l):ya k p name=((iF k p name p.fns l:Nat):Int):=by unfold ya;rw [h.Av]
def qY (p:Src) (name:ae):Int × Int:=if (fq p&&p.globals.contains name)=true then (ya 2 p name,ya 7 p name) else (0,0)
def qU (p:Src) (name:ae):Int × Int:=if (fq p&&decide (0<=fO p name))=true then (ya 3 p name,ya 8 p name) else (0,0)
theorem Good.fn {p:Src} {l:List T} (h:Good p l) {i:Nat} {f:Go.Sp.Fn} {t:T} (e1:p.fns[i]?=some f) (e2:l[i]?=some t):lf p l i f t:=by
 obtain ⟨a1,a2,a3,a4,a5⟩:=h.at_ _ _ _ e1 e2;refine ⟨h,e1,e2,a1,a2,a3,a4,a5,?_⟩;have:=h.st.few;have:=a4.le;omega
theorem lf.Wv {k:Int} {p:Src} {l:List T} {i:Nat} {f:Go.Sp.Fn} {t:T} {name:ae} (h:lf p l i f t) (hk:k=2\/k=7\/k=3\/k=8) (ha:k=2->fO p name < 0) :
  oD [k] name false (iN (f.params++bP t) t f.params)=jl (ll name k) t f.params :=
 G8 p (f.params++bP t) name k hk ha t f.params h.wf h.z h.ok (fun s hs=>List.mem_append_left _ hs) (fun s hs=>List.mem_append_right _ hs)
end Go.Im
namespace Go.Xg
open Go.RowKit Go.Xw Go.Proofs
open Go.Xp (Nd T Ar aB aw cR)
open Go.Sp (Src)
open Go.Im
attribute [local irreducible] GW GL GO YG GC GA aQ aR
theorem xe (p:Src) (hw:cj p<=1048576) (l:List T) (h:Go.Im.Good p l) (name:ae) (one two:Int) (HC:one≠two) :
  GF Tryz.prog 45 [.agg (ak p),.v (sv name),.v (ii one),.v (ii two)] [] (.tup [.v (ii ((iF one p name p.fns l:Nat):Int)),.v (ii ((iF two p name p.fns l:Nat):Int))]) []:=by
 obtain ⟨⟨a1,a2⟩,⟨b1,b2⟩,⟨c1,c2⟩,⟨d1,d2⟩⟩:=dZ p
 have gV:(p.fns.map aq).length=p.fns.length:=by simp
 have Xo:=h.st.len;have WX:=h.st.few;have hlen:=h.len;refine ah Tryz.func45 Tryz.ntmps45 ?_;refine GW.wk (Wk.freeze (i:=0) rfl rfl rfl (Nat.zero_le _)) ?_;refine GW.wk (Wk.freeze (i:=1) rfl rfl rfl (Nat.zero_le _)) ?_;refine GW.wk (Wk.freeze (i:=2) rfl rfl rfl (Nat.zero_le _)) ?_;refine GW.wk (Wk.freeze (i:=3) rfl rfl rfl (Nat.zero_le _)) ?_;refine GW.range (p.fns.map aq).length (fun k fr Γ=>∃ u v,fr=[.any,.any,.any,.any,.box (ak p) 0,.box [.v (sv name)] 0,.box [.v (ii one)] 0,.box [.v (ii two)] 0,.any,.any,.loc 4 0,.loc 5 0,.any,.any,.sl 3 (p.fns.map aq),.v (ii ((p.fns.map aq).length:Int)),.v (ii (k:Nat)),.any,.any,.any,.any,.any,.any,.any,.any,.any]/\Γ=[.gone,.gone,.gone,.gone,.box 3 [.v (ii (u:Nat))],.box 3 [.v (ii (v:Nat))]]/\u=iF one p name (p.fns.take k) (l.take k)/\v=iF two p name (p.fns.take k) (l.take k)) ?_ (by omega) ?_ ?_ ?_
 ·exact ⟨_,_,Wk.av aj,0,0,rfl,rfl,by simp [iF],by simp [iF]⟩
 ·rintro k _ _ ⟨u,v,rfl,rfl,_⟩;exact ⟨rfl,rfl,rfl⟩
 ·rintro k _ _ ao ⟨u,v,rfl,rfl,hu,hv⟩;rw [gV] at ao;obtain ⟨f,hf⟩:∃ f,p.fns[k]?=some f:=⟨p.fns[k],by simp [ao]⟩;obtain ⟨t,ht⟩:∃ t,l[k]?=some t:=⟨l[k]'(by omega),List.getElem?_eq_getElem _⟩;have hg:=h.fn hf ht;have SQ:=hg.sz
  have jr:u<=800:=by
   have:=vR one p name (p.fns.take k) (l.take k);have:=jd ht;omega
  have HG:v<=800:=by
   have:=vR two p name (p.fns.take k) (l.take k);have:=jd ht;omega
  have hE:=QF p name one two 3 3 k f t (u,v) (by omega) (fun n hn=>by have:=(d2 n hn).2;omega) HC hf (by have:=(c2 f (List.mem_of_getElem? hf)).2.1;omega) hg.body hg.st (by omega) ⟨by show u+_<=_;omega,by show v+_<=_;omega⟩;rw [Sc HC] at hE;simp only at hE;unfold FP at hE;rw [rP one p name hf ht,rP two p name hf ht,<-hu,<-hv];clear hu hv;refine ab ?_;refine U [4,5] (hE) ?_;exact ⟨rfl,rfl,_,_,Wk.av aj,_,_,rfl,rfl,rfl,rfl⟩
 ·rintro _ _ ⟨u,v,rfl,rfl,hu,hv⟩;rw [gV,take_length,hlen,take_length] at hu hv;rw [<-hu,<-hv];refine aJ ?_;refine ab ?_;refine GW.draw (.q 0 (.q 1 (.q 2 (.q 3 .nil)))) (by kernel_rfl) (by kernel_rfl) ?_;refine ai ?_;exact l7
theorem wm (p:Src) (hw:cj p<=1048576) (l:List T) (h:Go.Im.Good p l) (kind:Int) (name:ae) (hk:kind=2\/kind=7\/kind=3\/kind=8) (ha:kind=2->fO p name < 0) :
  GF Tryz.prog 42 [.agg (ak p),.v (ii kind),.v (sv name)] [] (.v (ii ((iF kind p name p.fns l:Nat):Int))) []:=by
 obtain ⟨⟨a1,a2⟩,⟨b1,b2⟩,⟨c1,c2⟩,⟨d1,d2⟩⟩:=dZ p
 have gV:(p.fns.map aq).length=p.fns.length:=by simp
 have Xo:=h.st.len;have WX:=h.st.few;have hlen:=h.len;refine ah Tryz.func42 Tryz.ntmps42 ?_;refine GW.range (p.fns.map aq).length (fun k fr Γ=>∃ u:Nat,fr=[.any,.v (ii kind),.v (sv name),.loc 0 0,.any,.any,.any,.v (ii (u:Nat)),.any,.any,.sl 3 (p.fns.map aq),.v (ii ((p.fns.map aq).length:Int)),.v (ii (k:Nat)),.any,.any,.any,.any,.any,.any,.any,.any,.any,.any,.any,.any,.any]/\Γ=[.box 34 (ak p)]/\u=iF kind p name (p.fns.take k) (l.take k)) ?_ (by omega) ?_ ?_ ?_
 ·exact ⟨_,_,Wk.av aj,0,rfl,rfl,by simp [iF]⟩
 ·rintro k _ _ ⟨u,rfl,rfl,_⟩;exact ⟨rfl,rfl,rfl⟩
 ·rintro k _ _ ao ⟨u,rfl,rfl,hu⟩;rw [gV] at ao;obtain ⟨f,hf⟩:∃ f,p.fns[k]?=some f:=⟨p.fns[k],by simp [ao]⟩;obtain ⟨t,ht⟩:∃ t,l[k]?=some t:=⟨l[k]'(by omega),List.getElem?_eq_getElem _⟩;have hg:=h.fn hf ht;have SQ:=hg.sz
  have jr:u<=800:=by
   have:=vR kind p name (p.fns.take k) (l.take k);have:=jd ht;omega
  have hB:=yd p hw hg;have hN:=wo [kind] name false (by simp) _ (iN (f.params++bP t) t f.params) (Nat.le_refl _) (by rw [tu];omega);rw [hg.Wv hk ha] at hN;have hc:=D1 (ll name kind) t f.params;rw [rP kind p name hf ht,<-hu];clear hu;generalize jl (ll name kind) t f.params=z at *;generalize iN (f.params++bP t) t f.params=bt at *;refine ab ?_;refine U [] (hB) ?_;refine bC ?_;refine ab ?_;refine U [] (hN) ?_;exact ⟨rfl,rfl,_,_,Wk.av aj,_,rfl,rfl,rfl⟩
 ·rintro _ _ ⟨u,rfl,rfl,hu⟩;rw [gV,take_length,hlen,take_length] at hu;rw [<-hu];refine aJ ?_;exact ar
theorem DN (p:Src) (hw:cj p<=1048576) (hn:im p) (name:ae) (hl:name.length<=1048576) :
  GF Tryz.prog 18 [.agg (ak p),.v (sv name)] [] (.tup [.v (ii (qY p name).1),.v (ii (qY p name).2)]) []:=by
 obtain ⟨⟨a1,a2⟩,⟨b1,b2⟩,⟨c1,c2⟩,⟨d1,d2⟩⟩:=dZ p;have hG:=BS p hw hn;have hC:=gz p.globals name (by omega);unfold qY
 cases h1:fq p with
 | false =>
  rw [h1] at hG;rw [if_neg (by simp)];refine ah Tryz.func18 Tryz.ntmps18 ?_;refine U [] (hG) ?_;exact ew
 | true =>
  rw [h1] at hG
  cases h2:p.globals.contains name with
  | false =>
   rw [h2] at hC;rw [if_neg (by simp)];refine ah Tryz.func18 Tryz.ntmps18 ?_;refine U [] (hG) ?_;refine U [] (hC) ?_;exact ew
  | true =>
   rw [h2] at hC;rw [if_pos (show (true&&true)=true from rfl)];obtain ⟨l,fa⟩:=uY h1;have hA:=xe p hw l fa name 2 7 (by decide);rw [mV fa,mV fa];refine ah Tryz.func18 Tryz.ntmps18 ?_;refine U [] (hG) ?_;refine U [] (hC) ?_;refine U [] (hA) ?_;exact ew
theorem DM (p:Src) (hw:cj p<=1048576) (hn:im p) (name:ae) (hl:name.length<=1048576) :
  GF Tryz.prog 17 [.agg (ak p),.v (sv name)] [] (.tup [.v (ii (qY p name).1),.v (ii (qY p name).2)]) []:=by
 obtain ⟨⟨a1,a2⟩,⟨b1,b2⟩,⟨c1,c2⟩,⟨d1,d2⟩⟩:=dZ p;have hG:=yr p hw;have hC:=gE p.globals name (by omega);unfold qY
 cases h1:fq p with
 | false =>
  rw [h1] at hG;rw [if_neg (by simp)];refine ah Tryz.func17 Tryz.ntmps17 ?_;refine U [] (hG) ?_;exact ew
 | true =>
  rw [h1] at hG
  cases h2:p.globals.contains name with
  | false =>
   rw [h2] at hC;rw [if_neg (by simp)];refine ah Tryz.func17 Tryz.ntmps17 ?_;refine U [] (hG) ?_;refine U [] (hC) ?_;exact ew
  | true =>
   rw [h2] at hC;rw [if_pos (show (true&&true)=true from rfl)];obtain ⟨l,fa⟩:=uY h1;have hA:=wm p hw l fa 2 name (by decide) (fun _=>IQ fa h2);have hB:=wm p hw l fa 7 name (by decide) (fun e=>by cases e);rw [mV fa,mV fa];refine ah Tryz.func17 Tryz.ntmps17 ?_;refine U [] (hG) ?_;refine U [] (hC) ?_;refine GW.draw (.q 0 (.q 1 (.q 3 (.q 4 (.a 2 (.a 5 (.q 6 (.q 7 .nil)))))))) (by kernel_rfl) (by kernel_rfl) ?_;refine ai ?_;refine ax [] (hA) ?_;refine ax [] (hB) ?_;exact l7
theorem F8 (p:Src) (hw:cj p<=1048576) (hn:im p) (name:ae) (hl:name.length<=1048576) :
  GF Tryz.prog 16 [.agg (ak p),.v (sv name)] [] (.tup [.v (ii (qU p name).1),.v (ii (qU p name).2)]) []:=by
 obtain ⟨⟨a1,a2⟩,⟨b1,b2⟩,⟨c1,c2⟩,⟨d1,d2⟩⟩:=dZ p;have hG:=BS p hw hn;have hC:=w9 p name (by omega);unfold qU;have e:cB (fun x:Ar=>x.name==name) p.arrays=fO p name:=rfl;rw [e] at hC
 cases h1:fq p with
 | false =>
  rw [h1] at hG;rw [if_neg (by simp)];refine ah Tryz.func16 Tryz.ntmps16 ?_;refine U [] (hG) ?_;exact ew
 | true =>
  rw [h1] at hG
  by_cases h2:0<=fO p name
  ·rw [if_pos (by simpa using h2)]
   have h3:decide (fO p name < 0)=false:=by simpa using h2
   obtain ⟨l,fa⟩:=uY h1;have hA:=xe p hw l fa name 3 8 (by decide);rw [mV fa,mV fa];generalize fO p name=z at *;refine ah Tryz.func16 Tryz.ntmps16 ?_;refine U [] (hG) ?_;refine U [] (hC) ?_;refine U [] (hA) ?_;exact ew
  ·rw [if_neg (by simpa using h2)]
   have h3:decide (fO p name < 0)=true:=by simpa using h2
   generalize fO p name=z at *;refine ah Tryz.func16 Tryz.ntmps16 ?_;refine U [] (hG) ?_;refine U [] (hC) ?_;exact ew
theorem F7 (p:Src) (hw:cj p<=1048576) (hn:im p) (name:ae) (hl:name.length<=1048576) :
  GF Tryz.prog 15 [.agg (ak p),.v (sv name)] [] (.tup [.v (ii (qU p name).1),.v (ii (qU p name).2)]) []:=by
 obtain ⟨⟨a1,a2⟩,⟨b1,b2⟩,⟨c1,c2⟩,⟨d1,d2⟩⟩:=dZ p;have hG:=yr p hw;have hC:=wj p name (by omega);unfold qU;have e:cB (fun x:Ar=>x.name==name) p.arrays=fO p name:=rfl;rw [e] at hC
 cases h1:fq p with
 | false =>
  rw [h1] at hG;rw [if_neg (by simp)];refine ah Tryz.func15 Tryz.ntmps15 ?_;refine U [] (hG) ?_;exact ew
 | true =>
  rw [h1] at hG
  by_cases h2:0<=fO p name
  ·rw [if_pos (by simpa using h2)]
   have h3:decide (fO p name < 0)=false:=by simpa using h2
   obtain ⟨l,fa⟩:=uY h1;have hA:=wm p hw l fa 3 name (by decide) (fun e=>by cases e);have hB:=wm p hw l fa 8 name (by decide) (fun e=>by cases e);rw [mV fa,mV fa];generalize fO p name=z at *;refine ah Tryz.func15 Tryz.ntmps15 ?_;refine U [] (hG) ?_;refine U [] (hC) ?_;refine GW.draw (.q 0 (.q 1 (.q 3 (.q 4 (.a 2 (.a 5 (.q 6 (.q 7 .nil)))))))) (by kernel_rfl) (by kernel_rfl) ?_;refine ai ?_;refine ax [] (hA) ?_;refine ax [] (hB) ?_;exact l7
  ·rw [if_neg (by simpa using h2)]
   have h3:decide (fO p name < 0)=true:=by simpa using h2
   generalize fO p name=z at *;refine ah Tryz.func15 Tryz.ntmps15 ?_;refine U [] (hG) ?_;refine U [] (hC) ?_;exact ew
end Go.Xg
