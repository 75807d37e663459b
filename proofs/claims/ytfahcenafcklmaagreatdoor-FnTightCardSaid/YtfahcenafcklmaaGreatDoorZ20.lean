/- Part 20 of proofs that are told in their last texts. -/
import Derived.Test.YtfahcenafcklmaaGreatDoorZ4
import Derived.Test.YtfahcenafcklmaaGreatDoorZ5
import Derived.Test.YtfahcenafcklmaaGreatDoorZ6
open List (all_cons)
set_option linter.unusedVariables false
set_option linter.unusedSimpArgs false
set_option maxRecDepth 100000
namespace Go.Im
open Go.Xp Go.Sp
theorem Ec:∀ {l:List T},(∀ t∈l,cX t=true)->bX l=true
 | [],_=>rfl
 | t::r,h=>by rw [bX,h t List.mem_cons_self,Ec fun u hu=>h u (di _ hu)];rfl
theorem MJ {α:Type} (f:α->Nat) (l:List α) (k:Nat):aV f (l.take k)<=aV f l:=by
 have:aV f l=aV f (l.take k)+aV f (l.drop k):=by rw [<-nS,List.take_append_drop]
 omega
theorem MI {α:Type} (f:α->Nat) (l:List α) (k:Nat):aV f (l.drop k)<=aV f l:=by
 have:aV f l=aV f (l.take k)+aV f (l.drop k):=by rw [<-nS,List.take_append_drop]
 omega
structure WT (p:Src) (i:Nat) (u:T) (a:E):Prop where
 ok:a.ok=true
 er:er u=a.tree
 sub:sub p.nodes (fN p.nodes) i=some u
 tr:∃ e,nU p.nodes (p.nodes.length - i+1) i=some (u,e)
 k:gq u=true
 num:nO u
 wt:gw u<=100 * cv p
 txt:cM u=a.txt
theorem Jd {p:Src} {l:List T} (h:b8 p l) (hn:gY p) {i:Nat} {n:Nd} (hi:p.nodes[i]?=some n) (hk:fa n.kind=true):∃ u a,WT p i u a:=by
 have ar:=(bh hi).1;obtain ⟨u,D,I⟩:=da.at_ l 0 i h.st (aY _) (by rw [h.len];omega)
 have cp:bX l=true:=Ec fun t ht=>by
  obtain ⟨f,_,D⟩:=(dH.mem h.fns).2 t ht;exact D.all
 have hu:=I cp
 have zd:u.n=n:=by
  obtain ⟨m,k⟩:=u;rw [eL,hi] at D;exact (DW D.1).symm
 obtain ⟨a,h3,h4⟩:=WO _ u (aD _) hu (by rw [zd];exact hk);have hle:=eL.le _ _ D;refine ⟨u,a,h3,h4,(xU _).1 u i D ze5,⟨_,F9 _ u i D (Am u hu) ak⟩,I5 u hu,eL.num hn.nodes u i D,?_,?_⟩
 ·have e1:=eL.fl u i D;have e2:=Nf u i;have e3:=MI lG (p.nodes.take (i+aQ u)) i;have e4:=MJ lG p.nodes (i+aQ u)
  have e6:aV lG p.nodes<=100 * aV (fun n:Nd=>n.s.length+n.kids.length+1) p.nodes:=fx fun n _=>by unfold lG;omega
  rw [e1] at e3;unfold cv;omega
 ·rw [<-Bp,h4];exact dK a h3
def tE (p:Src) (i:Int):ae:=if i < 0\/(p.nodes.length:Int)<=i then [] else if fI p=false then [] else match p.nodes[i.toNat]? with
 | none=>[]
 | some n=>if fa n.kind=false then [] else match nU p.nodes (p.nodes.length - i.toNat+1) i.toNat with
  | none=>[]
  | some (u,_)=>cM u
theorem Bn {p:Src} {i:Int} (h:i < 0\/(p.nodes.length:Int)<=i):tE p i=[]:=by unfold tE;rw [ah h]
theorem J5 {p:Src} {i:Int} (h:fI p=false):tE p i=[]:=by
 unfold tE;rw [h,ah rfl];split <;> rfl
theorem CL {p:Src} {i:Nat} {n:Nd} (hi:p.nodes[i]?=some n) (h:fa n.kind=false):tE p (i:Int)=[]:=by
 unfold tE;rw [mI,hi];simp only;rw [h,ah rfl];split
 ·rfl
 ·split <;> rfl
theorem Bo {p:Src} {i:Nat} {n:Nd} {u:T} {e:Nat} (hi:p.nodes[i]?=some n) (hf:fI p=true) (h:fa n.kind=true) (ht:nU p.nodes (p.nodes.length - i+1) i=some (u,e)):tE p (i:Int)=cM u:=by
 have ar:=(bh hi).1;unfold tE;rw [mI,hi,ad ak,ad (by rw [hf];decide)];simp only;rw [ad (by rw [h];decide),ht]
theorem Va {f:Nat} {p:RS} {st:PS} {ts rest:List Tok} {x:Fn × List S} (hp:On p (ts++rest)) (hs:pP p.l) (hf:fW p<=f) (ht:ts.map kf=r8 x) (D:bC x.1.name=true) (I:cy x.1.params=true) (h3:S.bW x.2=true) (jI:dc x.2 1=false) :
  ∃ q c9,iW f p st=some (q,c9)/\q.code=9:=by
 obtain ⟨u,r,rfl,k1,ht⟩:=map_cons ht;obtain ⟨v,r,rfl,k2,ht⟩:=map_cons ht;obtain ⟨w,r,rfl,k3,ht⟩:=map_cons ht;obtain ⟨A,r,rfl,k4,ht⟩:=c8 ht;obtain ⟨y,r,rfl,k5,ht⟩:=map_cons ht;simp only [List.cons_append,fF] at hp;have p1:=nx hp;have p2:=nx p1;have p3:=nx p2
 have hl:p.next.next.next.l=p.l:=by rw [(dM p2).1,(dM p1).1,(dM hp).1]
 have hA:x.1.params.length<=A.length:=by have:=Il x.1.params;rw [<-k4,cU] at this;exact this
 have dv:=On.len p3;simp only [aJ] at dv;rw [hl] at dv
 have Lq:x.1.params.length < f:=by unfold fW at hf;omega
 obtain ⟨q,h4,h5⟩:=Qg k5 x.1.params f p.next.next.next A Lq I p3 k4
 have jZ:q.l=p.l:=h5.2.1.trans hl;obtain ⟨t,q',h6,h7⟩:=Ou (f:=f) h5.1 ze3 zeX;obtain ⟨r1,r2⟩:=zx (e:=q.e) (d:=1) (rest:=rest) h3 ht
 have hw:iW f p st=some (q',{ st with trees:=st.trees++[t],fns:=st.fns++[(x.1.name,x.1.params)] }):=by
  exact zbF
 obtain ⟨pos,j2⟩:=r2 jI;rw [j2] at h7;exact ⟨q',_,hw,h7.1⟩
theorem KQ {x:ae} {F:Fn × List S} (hF:Gk F) (hl:x.length<=6000) (hx:cV x (r8 F)) (jI:dc F.2 1=false):∃ z,qd x=(⟨[],[],[],[]⟩,9,z):=by
 obtain ⟨us,k1,k2⟩:=hx.all;obtain ⟨ts,c,z,q,st,hr⟩:=reads x;have h3:=B7 k2 rfl (x.length+1) [] ak;rw [List.nil_append,hr.lex] at h3;simp only [Option.some.injEq,Prod.mk.injEq] at h3;obtain ⟨rfl,rfl,rfl⟩:=h3
 have EZ:pP ts:=by
  obtain ⟨iz,c',z',j1,j2,j3,j4⟩:=nL x (x.length+1) 0 [] (aY _) ak (fun t h=>by simp at h) .nil (fun t h=>by simp at h) (aD _);rw [hr.lex] at j1;cases j1;exact j3
 have qw:On ⟨ts,0,(x.length:Int),0,0⟩ (ts++[]):=⟨rfl,aY _,by simp,k2.kinds⟩;obtain ⟨q',c9,j1,j2⟩:=Va (f:=40 * ts.length+100) (st:=.empty) qw EZ (aD _) k1 hF.1 hF.2.1 hF.2.2 jI;obtain ⟨u,r,hu,_,_⟩:=map_cons k1;have DQ:=hr.read;rw [hu] at DQ qw j1;rw [fk] at qw;rw [pb qw j1,B3 (by rw [j2];decide) zeL] at DQ;simp only [Option.some.injEq,Prod.mk.injEq] at DQ;obtain ⟨rfl,rfl⟩:=DQ;exact ⟨q'.at_,by rw [Cj ak hr,ad zeL,ah (by rw [j2];decide),j2]⟩
mutual
theorem E.sx:∀ a:E,er a.tree=a.tree
 | .num n=>by rw [E.tree,er,aK]
 | .name s=>by rw [E.tree,er,aK]
 | .at_ s a=>by rw [E.tree,er,aK,aK,E.sx a]
 | .call s l=>by rw [E.tree,er,E.Et l]
 | .un s a=>by rw [E.tree,er,aK,aK,E.sx a]
 | .bin s a b=>by rw [E.tree,er,aK,aK,aK,E.sx a,E.sx b]
theorem E.Et:∀ l:List E,aK (E.trees l)=E.trees l
 | []=>by rw [E.trees,aK]
 | a::l=>by rw [E.trees,aK,E.sx a,E.Et l]
end
theorem Pa {s:ae} (h:fm s=true):s.length<=12:=by
 unfold fm at h
 have key:∀ l∈levels,∀ s∈l,s.length<=12:=by decide
 obtain ⟨l,hl,hs⟩:=yK.1 h;exact key l hl s (by simpa using hs)
theorem uK {k n:Int} {s:ae} (hk:0<=k/\k<=14) (hn:0<=n/\n<=2147483647) (hs:s.length<=12):R9 ⟨k,0,n,s,[]⟩:=⟨hk,⟨Int.le_refl _,by show (0:Int)<=6000;omega⟩,hn,hs⟩
mutual
theorem E.bd:∀ a:E,a.ok=true->iR a.tree
 | .num n,h=>by
  simp only [E.ok,au,decide_eq_true_eq] at h;rw [E.tree,iR,ey];exact ⟨uK ai h ai,trivial⟩
 | .name s,h=>by
  rw [E.tree,iR,ey];exact ⟨uK ai ai (iY h),trivial⟩
 | .at_ s a,h=>by
  simp only [E.ok,au] at h;rw [E.tree,iR,ey,ey];exact ⟨uK ai ai (iY h.1),E.bd a h.2,trivial⟩
 | .call s l,h=>by
  simp only [E.ok,au] at h;rw [E.tree,iR];exact ⟨uK ai ai (iY h.1),E.VT l h.2⟩
 | .un s a,h=>by
  simp only [E.ok,au,Bool.or_eq_true,beq_iff_eq] at h;rw [E.tree,iR,ey,ey];exact ⟨uK ai ai (by rcases h.1 with (h | h) | h <;> (rw [h];decide)),E.bd a h.2,trivial⟩
 | .bin s a b,h=>by
  simp only [E.ok,au] at h;rw [E.tree,iR,ey,ey,ey];exact ⟨uK ai ai (Pa h.1.1),E.bd a h.1.2,E.bd b h.2,trivial⟩
theorem E.VT:∀ l:List E,E.bW l=true->ey (E.trees l)
 | [],_=>by rw [E.trees,ey];trivial
 | a::l,h=>by
  simp only [E.bW,au] at h;rw [E.trees,ey];exact ⟨E.bd a h.1,E.VT l h.2⟩
end
def re:ae:=[109,97,105,110]
def ma (a:E):T:=aZ [.ret a]
def pR (a:E):Src:=⟨[],[],[⟨re,[],0⟩],cD 0 [ma a]⟩
def oI (x:ae):ae:=([102,117,110,99,32,109,97,105,110,40,41,32,123,32,114,101,116,117,114,110,32]++x)++[59,32,125]
theorem vz (a:E):ma a=.mk ⟨14,0,0,[],[]⟩ [.mk ⟨11,0,0,[],[]⟩ [a.tree]]:=by
 unfold ma aZ;rw [S.trees,S.trees,S.tree]
theorem Ct (a:E):er (ma a)=ma a:=by
 rw [vz,er,aK,aK,er,aK,aK,E.sx]
theorem It (a:E):aQ (ma a)=aQ a.tree+2:=by
 rw [vz,aQ,aB,aB,aQ,aB,aB]
theorem vA {a:E} (h:a.ok=true):S.bW [.ret a]=true:=by
 simp only [S.bW,S.ok,h,Bool.and_self]
theorem Gy {a:E} (h:a.ok=true):Forms (ef 0 [ma a]) [[.ret a]]:=by
 refine ⟨by rw [ef,ef];rfl,fun i t b D I=>?_⟩
 cases i with
 | zero =>
  rw [ef] at D
  cases D;cases I
  exact ⟨vA h,by rw [xd,Ct];rfl⟩
 | succ i=>simp at I
theorem Ee {a:E} (h:a.ok=true) (hz:aQ a.tree+2<=800):b8 (pR a) (ef 0 [ma a]):=by
 have pY:jn (ma a):=Am _ (S.pk _ (vA h));refine ⟨rfl,rfl,vH [ma a] 0 fun i hi=>by show (cD 0 [ma a])[0+i]?=_;rw [eo],?_,?_,?_⟩
 ·rw [ef,ef];show dH IQ [⟨re,[],0⟩] 0 [nJ 0 (ma a)];rw [dH,dH];refine ⟨rfl,⟨by decide,rfl,?_,An _ (by rw [xd,Ct];exact S.pk _ (vA h)) (Ef _ _ pY)⟩,trivial⟩;rw [vz,nJ];rfl
 ·show aB (ef 0 [ma a])=(cD 0 [ma a]).length;rw [yC,mV]
 ·show (cD 0 [ma a]).length<=800;rw [mV,aB,aB,It];omega
theorem Ed {a:E} (h:a.ok=true):ey [ma a]:=by
 rw [vz,ey,ey,iR,ey,ey,iR,ey,ey];exact ⟨⟨⟨by decide,by decide,by decide,by decide⟩,⟨⟨by decide,by decide,by decide,by decide⟩,E.bd a h,trivial⟩,trivial⟩,trivial⟩
theorem QN {a:E} (h:a.ok=true) (hz:aQ a.tree+2<=800):cv (pR a)<=1048576:=by
 have D:=Jf [ma a] 0 (Ed h);rw [aB,aB,It] at D;have I:aV (fun n:Nd=>n.s.length+n.kids.length+1) (pR a).nodes=aV QD (cD 0 [ma a]):=rfl;have e1:(pR a).globals=[]:=rfl;have e2:(pR a).arrays=[]:=rfl;have e3:(pR a).fns=[⟨re,[],0⟩]:=rfl;unfold cv;rw [I,e1,e2,e3];simp only [wS,aV,re,List.length_cons,List.length_nil] at D |-;omega
theorem QM {a:E} (h:a.ok=true):gY (pR a):=by
 refine ⟨fun x hx=>(by cases hx),fun n hn=>?_⟩;have:=Je [ma a] 0 (Ed h) n hn;omega
theorem Ku {a:E} (h:a.ok=true):cV (oI a.txt) (r8 (⟨re,[],0⟩,[.ret a])):=by
 have x1:=((n8 (w:=fv) ai).apps (iN (w:=re) ai)).then (c:=40) ai;have x2:=((x1.app (gB (c:=41) ai)).app xR).app (lexB [.ret a] (vA h))
 have e:oI a.txt=fv++[32]++re++[40]++[41]++[32]++(S.cC E.txt [123,32] [.ret a]++[125]):=by
  rw [S.cC,S.cC,S.txt];simp [oI,fv,re]
 rw [e];refine x2.eq ?_;simp [r8,Dv,Aq]
theorem Hw {l:List T} {x:T} (h:aK l=[x]):∃ t,l=[t]/\er t=x:=by
 cases l with
 | nil=>rw [aK] at h;cases h
 | cons t r =>
  rw [aK] at h
  injection h with D I
  cases r with
  | nil=>exact ⟨t,rfl,D⟩
  | cons u r=>rw [aK] at I;cases I
theorem Hu {t:T} {n:Nd} {x:T} (h:er t=.mk n [x]):∃ m u,t=.mk m [u]/\er u=x:=by
 cases t with
 | mk m l =>
  rw [jG] at h
  injection h with _ h
  obtain ⟨u,rfl,hu⟩:=Hw h;exact ⟨m,u,rfl,hu⟩
theorem Nt {a:E} (h:a.ok=true) {l':List T} (he:aK l'=aK (ef 0 [ma a])) (ha:cz l') {q:Src} (hq:q.nodes=cD 0 l') (hf:fI q=true):tE q 2=a.txt:=by
 rw [uS,aK,aK,Ct,vz] at he;obtain ⟨t,rfl,D⟩:=Hw he;obtain ⟨n0,t,rfl,I⟩:=Hu D;obtain ⟨n1,u,rfl,hu⟩:=Hu I;clear D I
 ·have dI:=vH (nodes:=q.nodes) [.mk n0 [.mk n1 [u]]] 0 fun i hi=>by rw [hq,eo]
  simp only [ef,nJ,da,eL] at dI;have I:eL q.nodes 2 (nJ 2 u):=dI.1.2.2.1.2.2.1
  have pY:jn (nJ 2 u):=by
   simp only [cz,jn] at ha;exact Ef _ _ ha.1.2.1.2.1
  have hle:=eL.le _ _ I
  have hex:er (nJ 2 u)=a.tree:=by rw [xd,hu]
  generalize hv:nJ 2 u=v at *
  have hi:q.nodes[2]?=some v.n:=by cases v;rw [eL] at I;exact I.1
  have hk:fa v.n.kind=true:=by
   have:=congrArg (fun t:T=>t.n.kind) hex;simp only [rV] at this;rw [this];exact jU a
  have ht:=F9 (q.nodes.length - 2+1) v 2 I pY ak;have:=Bo hi hf hk ht;show tE q ((2:Nat):Int)=_;rw [this,<-Bp,hex];exact dK a h
theorem JM {p:Src} {l:List T} {ls:List (List S)} (h:b8 p l) (hf:Forms l ls) {i:Nat} {n:Nd} (hi:p.nodes[i]?=some n) (hk:fa n.kind=true):2<=i:=by
 have root:∀ (j a:Nat) t,l[j]?=some t->eL p.nodes a t->a=i->False:=fun j a t ht dI ha=>by
  subst ha
  have hj:j < p.fns.length:=by have:=dH.len h.fns;have:=(bh ht).1;omega
  have hn:=(dH.at_ h.fns j _ t (ec hj) ht).2.kind
  have:t.n=n:=by cases t;rw [eL,hi] at dI;exact (DW dI.1).symm
  rw [this] at hn;rw [hn] at hk;revert hk;decide
 have dI:=h.st;have ar:=(bh hi).1
 match l,dI,hf,root,h.len with
 | [],_,_,_,hl=>rw [aB] at hl;omega
 | t::r,dI,hf,root,hl =>
  rw [da] at dI
  refine Nat.le_of_not_lt fun I=>?_
  by_cases h0:i=0
  ·exact root 0 0 t rfl dI.1 h0.symm
  ·have D:i=1:=by omega
   obtain ⟨b,hb⟩:∃ b,ls[0]?=some b:=⟨ls[0]'(by rw [hf.len,List.length_cons];omega),ec _⟩;obtain ⟨a1,a2⟩:=hf.at_ 0 t b rfl hb
   cases t with
   | mk m ks =>
    cases ks with
    | nil =>
     have hz:aQ (.mk m [])=1:=by rw [aQ,aB]
     rw [hz] at dI
     match r,dI.2,root with
     | [],_,_=>rw [aB,aB,hz] at hl;omega
     | t2::r2,h3,root=>rw [da] at h3;exact root 1 (0+1) t2 rfl h3.1 ak
    | cons s ks =>
     have h3:=dI.1;rw [eL,da] at h3;have h4:=h3.2.2.1
     have LF:s.n=n:=by
      rw [D] at hi
      cases s;rw [eL] at h4
      rw [show 0+1=1 from rfl,hi] at h4;exact (DW h4.1).symm
     rw [jG,aK] at a2;unfold aZ at a2
     injection a2 with _ a2
     match b,a2 with
     | [],a2=>rw [S.trees] at a2;cases a2
     | s0::b,a2 =>
      rw [S.trees] at a2
      injection a2 with a2 _
      have h5:=Mw s0;rw [<-a2,rV] at h5
      have h6:fZ n.kind=true:=by rw [<-LF];exact h5
      unfold fa at hk;unfold fZ at h6;simp only [au,decide_eq_true_eq] at hk h6;omega
theorem IC {p:Src} {z:Int} (hn:gY p) (h:tE p z≠[]):∃ a:E,a.ok=true/\tE p z=a.txt/\aQ a.tree+2<=800/\a.txt.length<=100 * cv p:=by
 by_cases ho:z < 0\/(p.nodes.length:Int)<=z
 ·exact absurd (Bn ho) h
 ·cases hf:fI p with
  | false=>exact absurd (J5 hf) h
  | true =>
   obtain ⟨i,rfl⟩:∃ i:Nat,z=(i:Int):=⟨z.toNat,by omega⟩;obtain ⟨n,hi⟩:∃ n,p.nodes[i]?=some n:=⟨p.nodes[i]'ak,ec _⟩
   cases hk:fa n.kind with
   | false=>exact absurd (CL hi hk) h
   | true =>
    obtain ⟨l,ls,hs,PR,-⟩:=zD hf;obtain ⟨u,a,hx⟩:=Jd hs hn hi hk;obtain ⟨e,he⟩:=hx.tr;have I:=JM hs PR hi hk;have h3:=(ME _ _ _ _ he).1;have h4:=eL.le _ _ h3;have h5:=hs.few
    have h6:aQ u=aQ a.tree:=by rw [<-rJ u,hx.er]
    have h7:=sJ _ u (aD _) hx.num;have h8:=hx.wt;rw [hx.txt] at h7;exact ⟨a,hx.ok,by rw [Bo hi hf hk he,hx.txt],by omega,by omega⟩
theorem J6 {p:Src} {z:Int} (hn:gY p) (h:tE p z≠[]):(∃ y,(qd (oI (tE p z))).2.1=y/\(y=1\/y=9))\/∃ q,qd (oI (tE p z))=(q,0,0)/\cv q<=1048576/\gY q/\tE q 2=tE p z:=by
 obtain ⟨a,ha,D,I,-⟩:=IC hn h;rw [D]
 by_cases hl:(oI a.txt).length > 6000
 ·exact .inl ⟨1,by rw [xK hl],.inl rfl⟩
 ·have hx:=Ku ha
  cases jI:dc [.ret a] 1 with
  | false =>
   obtain ⟨y,hy⟩:=KQ (F:=(⟨re,[],0⟩,[.ret a])) ⟨(show bC re=true by decide),rfl,vA ha⟩ ak hx jI;exact .inl ⟨9,by rw [hy],.inr rfl⟩
  | true =>
   have hs:=Ee ha I;have hf:=Gy ha;obtain ⟨l',k1,k2,k3⟩:=back hs hf (by rw [all_cons,jI];rfl) (x:=oI a.txt) (hx.eq (by simp [Bl,pR])) ak
   have Y1:fI (pR a)=true:=by rw [Ew hs hf,all_cons,jI];rfl
   have hb:=Hj Y1 hs hf k2 k3;exact .inr ⟨_,k1,by rw [hb.w];exact QN ha I,hb.num (QM ha),Nt ha k2 k3 rfl hb.ok⟩
end Go.Im
