/- Part 1 of proofs that are told in their last texts. -/
open List (getElem?_append getElem?_cons_zero getElem?_eq_none length_cons length_nil mem_cons_self mem_map tail_cons)
set_option linter.unusedVariables false
set_option linter.unusedSimpArgs false
set_option linter.defProp false
set_option maxRecDepth 100000
namespace Go
section
variable{A B:Prop}
def zaa(h:B)(s:PLift B->A:=by intro hQ;refine jB ?_;refine GL.wk (Wk.freeze (i:=0) rfl rfl rfl (bg _)) ?_;refine GL.wk (Wk.freeze (i:=1) rfl rfl rfl (bg _)) ?_;refine GN (by simp only[n1,nr];rfl) ?_;refine Z ?_;exact hQ.1):A:=s ⟨h⟩
def zab(s:A:=by have e:=fg a;have d:=fg b;have w:=kQ a;have m:=kQ b;unfold iR;generalize bD a=x at *;generalize bD b=y at *;refine aj func341 ntmps341 ?_;refine I [] e ?_;refine I [] d ?_;refine I [] w ?_;refine I [] m ?_;exact aw):A:=s
def zac(h:B)(s:PLift B->A:=by intro hQ;refine bL ?_;refine Z ?_;exact hQ.1):A:=s ⟨h⟩
def zad(s:A:=by refine aj func137 ntmps137 ?_;refine I [] j ?_;refine GL.borrow k (fun B K r w l d b=>lQ (A:=[_,_,_]) (C:=[]) d b rfl rfl rfl) ?_;refine bm ?_;exact dj):A:=s
def zae(s:A:=by generalize tok p 0=tk at *;refine aS (aK 0 45 (.a 45 (.q 46 .nil))) ?_;refine bp ?_;exact jw):A:=s
def zaf(h:B)(s:PLift B->A:=by intro hQ;refine bm ?_;refine Z ?_;exact hQ.1):A:=s ⟨h⟩
def zag(h:B)(s:PLift B->A:=by intro hQ;refine aZ [0,1,2,3,4,5,6] T ?_;refine Z ?_;refine aZ [0,1,5,6] N ?_;refine Z ?_;refine aZ [0,1,2,3,4,5,6] R ?_;refine Z ?_;exact hQ.1):A:=s ⟨h⟩
def zah(s:A:=by refine cb ?_;exact⟨by first|rfl|(rw[bq];rfl),rfl⟩):A:=s
def zai(s:A:=by refine Z ?_;have k:=fc s q;rw[t]at k;refine I [] k ?_;exact aw):A:=s
def zaj(s:A:=by refine aj func232 ntmps232 ?_;refine aZ [0,1,2,3,4,5,6] T ?_;refine Z ?_;refine aZ [0,1,5,6] R ?_;exact dj):A:=s
def zak(s:A:=by exact⟨rfl,rfl⟩):A:=s
def zal(s:A:=by refine aj func298 ntmps298 ?_;refine zac ?_;refine I [] N ?_;refine I [] S ?_;refine I [] z ?_;exact dE):A:=s
def zam(s:A:=by have⟨⟨A,q,F,u,B⟩,l⟩:=t;have⟨M,v,w,V⟩:=fi o;simp only at M v w;subst M v w;obtain⟨x,rfl,hx⟩:=wF V;simp only[E.ok,aU]at k;rw[E.tree,wt]at z;simp only[gy,lim]at z;have m:=C x k.2 hx (by unfold lim;omega);have W:=(E.len a k.2).2;have r:(bj [x])[0]?=some (cT x):=dp rfl;rw[E.full];generalize a.full=y at *;simp only[cT,T.n,T.au]at |-;refine aj func322 ntmps322 ?_;refine aS (aK 0 8 (.a 8 (aK 9 3 .nil))) ?_;refine av ?_;refine aJ [] m ?_;exact aB):A:=s
def zan(s:A:=by rw[t];exact⟨x,⟨_,_,Wk.aW az,_,_,rfl,rfl,by omega,j,o,e⟩,by omega⟩):A:=s
def zao(h:B)(s:PLift B->A:=by intro hQ;refine bI ?_;refine Z ?_;exact hQ.1):A:=s ⟨h⟩
def zap(h:B)(s:PLift B->A:=by intro hQ;refine zaf ?_;refine GL.q (YG.tG rfl) ?_;refine zaf ?_;refine GL.q (YG.Gt (b:=32) rfl rfl aN) ?_;refine bm ?_;refine GL.q (YG.B4 rfl X) ?_;exact hQ.1):A:=s ⟨h⟩
def zaq(s:A:=by refine aj func298 ntmps298 ?_;refine zac ?_;refine I [] N ?_;refine zac ?_;refine I [] V ?_;refine I [] S ?_;exact dE):A:=s
def zar(h:B)(s:PLift B->A:=by intro hQ;refine dn ?_;refine av ?_;exact hQ.1):A:=s ⟨h⟩
def zas(s:A:=by simp only[List.map_cons,map_nil,getD_cons_zero,getD_cons_succ,bf,length_cons,length_nil]at e |-;have F:=r b (by rw[m];simp) X;generalize w a=x at *;generalize n7 w inl d b=y at *;clear r j ih;generalize df [a,b]=u at *;refine dT func245 ntmps245 ?_;refine zaa ?_;refine aS (.q 0 (aK 4 8 (.a 1 (.q 2 (.q 3 (.a 12 (.q 13 (.q 14 .nil)))))))) ?_;refine av ?_;refine oJ [] s ?_;refine av ?_;refine aJ [] F ?_;exact aB):A:=s
def zat(s:A:=by have⟨⟨A,s,C,u,B⟩,l⟩:=t;have⟨M,v,w,V⟩:=fi r;simp only at M v w;subst M v w;obtain⟨q,rfl,j⟩:=wF V;simp only[S.ok]at k;rw[S.tree,wt]at z;simp only[gy,lim]at z;have o:=qD b (a:=a) k (by unfold lim;omega) q j;have R:=kl b a k;have F:(bj [q])[0]?=some (cT q):=dp rfl;rw[S.bP];generalize a.out b=i at *;simp only[cT,T.n,T.au];refine aj func203 ntmps203 ?_;refine I [] o ?_;exact aw):A:=s
def zau(h:B)(s:PLift B->A:=by intro hQ;refine GL.ij 1 rfl rfl rfl rfl rfl rfl rfl rfl aO ke ?_;exact hQ.1):A:=s ⟨h⟩
def zav(h:B)(s:PLift B->A:=by intro hQ;refine I [0] M ?_;refine I [0] m ?_;refine I [0] A ?_;refine I [0] L ?_;refine I [0] N ?_;exact hQ.1):A:=s ⟨h⟩
def zax(s:A:=by rw[S.tk]at o;obtain⟨t,r,rfl,M,_⟩:=map_cons o;exact⟨t,r,rfl,fun rest=>by rw[tl M];decide⟩):A:=s
def zay(s:A:=by refine Z ?_;exact⟨_,_,Wk.aW az,gU.next ⟨c,p,_,_,_,_,C,rfl,rfl,G,u,F,e,o⟩⟩):A:=s
def zaz(s:A:=by have⟨E,F,j⟩:=j _ _ e;refine aj func169 ntmps169 ?_;refine I [0] N ?_;refine I [0] C ?_;refine I [0] O ?_;refine aS (aK 0 24 .nil) ?_;refine bp ?_;refine I [0] Q ?_;refine I [0] (j4 b.next 7 b.next.place) ?_;refine I [0] E ?_;refine GL.ij 2 rfl rfl rfl rfl rfl rfl rfl rfl aO ke ?_;intro a c;refine ct ?_;refine Z ?_;refine I [0] F ?_;refine fJ ?_;exact j _ _ _ m):A:=s
def zaA(h:B)(s:PLift B->A:=by intro hQ;refine I [0] (dq p 0 J aN) ?_;refine I [0] (cZ p.next [40] o aN) ?_;refine I [0] (xX (d+1) _ e B n X F) ?_;refine I [0] (cZ B [41] m aN) ?_;refine aS (aK 0 4 (.a 4 (.a 5 (.q 6 .nil)))) ?_;refine av ?_;exact hQ.1):A:=s ⟨h⟩
def zaB(s:A:=by refine aj func139 ntmps139 ?_;refine I [] m ?_;exact aw):A:=s
def zaC(s:A:=by refine aj func36 ntmps36 ?_;refine I [0] M ?_;refine I [0] w ?_;exact aw):A:=s
def zaD(s:A:=by have e:=gi code 8 b G u;have H:=eD code b (n:=8) X;generalize bu code 8 b=a at *;have⟨j,t⟩:=a;simp only at e H |-;obtain⟨m,rfl⟩:∃m:Nat,j=(m:Int):=⟨j.toNat,by omega⟩;have V:=oF (l:=yM) (m:=m) (by show m<8;omega);refine aj func174 ntmps174 ?_;refine I [0] z ?_;refine zac ?_;refine I [0] e ?_;exact aw):A:=s
def zaE(s:A:=by simp only[bf,length_cons,length_nil];omega):A:=s
def zaF(h:B)(s:PLift B->A:=by intro hQ;refine av ?_;refine OQ rfl (YG.iT 7 rfl rfl rfl j o) ?_;refine lx ?_;refine av ?_;exact hQ.1):A:=s ⟨h⟩
def zaG(h:B)(s:PLift B->A:=by intro hQ;refine Z ?_;refine aS (aK 0 7 (.a 7 (aK 8 4 (.q 13 (.q 16 (.a 12 (.q 14 (.q 15 (.a 17 (.q 18 (.a 19 (.q 20 .nil)))))))))))) ?_;exact hQ.1):A:=s ⟨h⟩
def zaH(s:A:=by grind[S.bP,S.tree,gy,bf,length_cons,length_nil,bP,wt,tree]):A:=s
def zaI(s:A:=by exact⟨_,_,S,⟨R,rfl,m⟩,.pass (x:=.inLoop c) rfl (fun _ _=>.inl (by simp)) d⟩):A:=s
def zaJ(h:B)(s:PLift B->A:=by intro hQ;refine ct ?_;refine Z ?_;exact hQ.1):A:=s ⟨h⟩
def zaK(s:A:=by refine aj func232 ntmps232 ?_;refine aZ [0,1,2,3,4,5,6] T ?_;refine Z ?_;refine aZ [0,1,5,6] R ?_;refine Z ?_;refine aZ [0,1,2,3,4,5,6] S ?_;exact dj):A:=s
def zaL(h:B)(s:PLift B->A:=by intro hQ;refine aS (aK 0 10 .nil) ?_;refine bp ?_;exact hQ.1):A:=s ⟨h⟩
def zaM(h:B)(s:PLift B->A:=by intro hQ;refine I [0] ht ?_;refine I [0] m ?_;refine I [0] V ?_;refine I [0] J ?_;exact hQ.1):A:=s ⟨h⟩
def zaN(s:A:=by rw[<-M]at A |-;simp only[execOp,eqGuard,h,k,binOp,Op.intBits];exact congrArg (fun z:Int=>Result.ok (Next.value (Value.int .u32 z)) w) A):A:=s
def zaO(s:A:=by rw[R.nw]at j;simp only[bZ]at h;exact gb (b:=0) (E _ _ j z m) (q _ _ m) (fun v t y u d _=>fw (c6 d) (fun h=>by grind[Bd])) (eZ _ _) h):A:=s
def zaP(s:A:=by unfold ir at w V;generalize S.ei (E.out b) [123,32] p++[125]=O at *;simp only[cT,T.n,T.au];refine aj func203 ntmps203 ?_;refine aS (aK 0 5 (aK 8 5 (.a 5 (.q 6 (.q 7 (.a 13 (.q 14 (.q 15 .nil)))))))) ?_;refine av ?_;refine aJ [] r ?_;refine aJ [] w ?_;exact aB):A:=s
def zaQ(h:B)(s:PLift B->A:=by intro hQ;refine I [] d ?_;refine I [] w ?_;refine I [] m ?_;refine I [] u ?_;refine I [] o ?_;exact hQ.1):A:=s ⟨h⟩
def zaR(s:A:=by have s:=j 0 a (by rw[m];rfl);rw[m]at e |-;rw[m]at s;simp only[List.map_cons,map_nil,getD_cons_zero,bf,length_cons,length_nil]at e |-;generalize w a=x at *;generalize df [a]=u at *;refine dT func245 ntmps245 ?_;refine zaa ?_;refine ll [] s ?_;exact aB):A:=s
def zaS(s:A:=by refine GL.ij 2 rfl rfl rfl rfl rfl rfl rfl rfl aO ke ?_;intro a c;refine ct ?_;rw[m,o];refine Z ?_;refine zac ?_;refine I [0] (fQ b [59] (hx { st with ax:=st.ax++[s] } { h with aG:=a,cG:=c }) d) ?_;refine dz ?_;exact⟨rfl,{ h with aG:=a,cG:=c },rfl⟩):A:=s
def zaT(s:A:=by refine aS (aK 0 8 (.a 8 (.a 9 (.q 10 .nil)))) ?_;refine av ?_;refine aJ [] i0 ?_;refine aJ [] L ?_;refine Z ?_;refine aS (aK 0 8 (.q 9 (.a 8 (.a 10 (.a 11 (.q 12 .nil)))))) ?_;refine av ?_;refine aJ [] i1 ?_;refine aJ [] hM ?_;refine aJ [] H ?_;exact aB):A:=s
def zaU(s:A:=by exact⟨_,iz,rfl,rfl⟩):A:=s
def zaV(s:A:=by refine aS (aK 0 7 (.a 7 (.a 8 (.a 9 (.q 10 .nil))))) ?_;refine av ?_;refine aJ [0] o ?_;refine zar ?_;refine aJ [] e ?_;exact aB):A:=s
def zaX(h:B)(s:PLift B->A:=by intro hQ;refine cW ?_;refine bp ?_;exact hQ.1):A:=s ⟨h⟩
def zaY(h:B)(s:PLift B->A:=by intro hQ;refine Z ?_;refine aS (aK 0 10 (.a 10 (.q 11 (.q 12 .nil)))) ?_;exact hQ.1):A:=s ⟨h⟩
def zaZ(s:A:=by refine I [0] J ?_;refine zac ?_;refine I [0] hw ?_;refine I [0] u ?_;refine nR ?_;refine Z ?_;refine zac ?_;refine I [0] w ?_;refine I [0] F ?_;refine fH ?_;refine Z ?_;refine GL.wk (Wk.ky (t:=108) rfl rfl rfl rfl) ?_;refine ct ?_;refine I [] n ?_;exact aw):A:=s
def za0(s:A:=by exact⟨rfl,rfl,_,_,Wk.aW az,rfl,rfl⟩):A:=s
def za1(h:B)(s:PLift B->A:=by intro hQ;refine jB ?_;refine GL.wk (Wk.freeze (i:=2) rfl rfl rfl (aQ _)) ?_;refine GN (by simp only[n1,nr];rfl) ?_;refine GL.wk (Wk.aW (de:=[U,.v (ii (i:Nat)),U,.box (aD p) 0,U,.loc 3 0,U,U,U,U,U,U,U,strs f.params,U,U,U,U,U,U,U,U,U,U]) az) ?_;refine GL.wk (Wk.jO 9 1) ?_;exact hQ.1):A:=s ⟨h⟩
def za2(s:A:=by unfold mS at *;unfold dD at *;refine aj func176 ntmps176 ?_;refine zaL ?_;refine aZ [0,1,2,3,4,5,6] k ?_;exact aB):A:=s
def za3(h:B)(s:PLift B->A:=by intro hQ;rw[rs,D aI];simp only;rw[D (by rw[j];decide),ae (.inl j),tail_cons,k2];exact hQ.1):A:=s ⟨h⟩
def za4(h:B)(s:PLift B->A:=by intro hQ;refine aS (aK 0 7 (.a 7 (.q 8 .nil))) ?_;refine av ?_;exact hQ.1):A:=s ⟨h⟩
def za5(h:B)(s:PLift B->A:=by intro hQ;refine Z ?_;refine aS (aK 0 8 (.a 8 (.q 9 (.q 10 .nil)))) ?_;refine av ?_;refine cj [] hA ?_;exact hQ.1):A:=s ⟨h⟩
def za6(s:A:=by obtain⟨g,rfl,o,j⟩:=pE z;rw[iS,u,ae A.code,D F,D J,D Q,D B,H g j];grind):A:=s
def za7(s:A:=by exact eR (N a) fun v t q=>eH (fun _=>⟨_,_,rfl,q⟩) fun _=>⟨_,_,rfl,q⟩):A:=s
def za8(s:A:=by refine zaf ?_;refine GL.q (YG.Ey rfl) ?_;refine bm ?_;refine GL.q (YG.Fg rfl (nc _)) ?_;refine bm ?_;exact aB):A:=s
def za9(s:A:=by rw[ae hx]at h;have⟨y,u,d,h⟩:=cH h;simp only[Option.some.injEq,Prod.mk.injEq]at h;obtain⟨rfl,rfl⟩:=h;exact ST X (tt i J j (fun h=>absurd h e) fun E=>.inl ⟨hx,y,V 1 _ _ _ y g X (lu X) z E d⟩)):A:=s
def zba(s:A:=by refine WL.val (v:=.slice (some ⟨w.heap.size,0,none⟩) n n) (w':=w') (by simp[execOp,S,hr]) ?_;exact h _ _ B K _ w' _ hm C ((W.mono (cY.refl K) (gK (by rw[hI.out _ (aQ _)];trivial))).put (some J) (.v _))):A:=s
def zbb(h:B)(s:PLift B->A:=by intro hQ;refine aS (aK 0 13 (.a 13 (.q 14 .nil))) ?_;refine av ?_;refine aJ [] e ?_;refine Z ?_;refine aZ [0,1,2,3,4,5,6] b ?_;refine Z ?_;exact hQ.1):A:=s ⟨h⟩
def zbc(s:A:=by rw[R.nw]at j;simp only[bZ]at h;exact gb (E _ _ j.1 z m) (q _ _ m) (fun v t y u d e=>fw (c6 d) (fw (c6 d) (gb (b:=0) (E _ _ j.2 d e) (q _ _ e) (fun v t y u d _=>fw (c6 d) (c6 d)) (eZ _ _)))) (eZ _ _) h):A:=s
def zbd(h:B)(s:PLift B->A:=by intro hQ;unfold qt dm;simp only[cons_append,nil_append];refine Z ?_;exact hQ.1):A:=s ⟨h⟩
def zbe(h:B)(s:PLift B->A:=by intro hQ;refine aS (aK 0 21 (.a 21 (aK 22 13 (.a 35 (.q 36 (.q 37 .nil)))))) ?_;exact hQ.1):A:=s ⟨h⟩
def zbf(h:B)(s:PLift B->A:=by intro hQ;refine Z ?_;refine aS (aK 0 4 (.a 4 (.q 5 (.q 6 (.a 7 .nil))))) ?_;refine av ?_;refine ml [0] J ?_;simp only[fV];refine zaF ?_;exact hQ.1):A:=s ⟨h⟩
def zbg(s:A:=by refine I [] h ?_;exact aw):A:=s
def zbh(s:A:=by refine Z ?_;refine aS (aK 0 18 (.a 18 (aK 19 3 .nil))) ?_;refine av ?_;refine cj [] j ?_;refine Z ?_;refine cb ?_;exact⟨by show GV.v (.bool (decide (((cm r.out).length:Int)<=qH p)))=_;rw[W],rfl⟩):A:=s
def zbi(s:A:=by refine aj func139 ntmps139 ?_;refine I [] m ?_;refine I [] i ?_;exact aw):A:=s
def zbj(s:A:=by generalize bF p n.s=z at *;refine Z ?_;refine aS (aK 0 6 (.a 6 (.q 7 .nil))) ?_;refine av ?_;refine aJ [] M ?_;refine Z ?_;refine iY ?_;exact kD (n:=2) rfl c8 rfl (aQ _) rfl rfl ⟨rfl,f,rfl,C⟩):A:=s
def zbk(h:B)(s:PLift B->A:=by intro hQ;refine dZ ?_;refine Z ?_;exact hQ.1):A:=s ⟨h⟩
def zbl(s:A:=by refine Z ?_;refine GL.ij 0 rfl rfl rfl rfl rfl rfl rfl rfl aO ke ?_;intro M B;refine zaJ ?_;exact⟨rfl,rfl,_,_,(Wk.cut (n:=2) (bg _) rfl).trans (Wk.aW az),M,B,_,_,rfl,rfl,by simp[C],j.symm⟩):A:=s
def zbm(h:B)(s:PLift B->A:=by intro hQ;refine Z ?_;refine aS (aK 0 7 (.a 7 (.a 8 (.a 9 .nil)))) ?_;refine av ?_;refine zar ?_;exact hQ.1):A:=s ⟨h⟩
def zbn(s:A:=by refine aj func298 ntmps298 ?_;refine I [] S ?_;exact dE):A:=s
def zbo(s:A:=by simp only[bZ]at h;exact fh (a:=0) (b:=0) aI (N _ _) (fun v t y u=>eG ab6 (fun h=>by grind[Dq])) h):A:=s
def zbp(s:A:=by refine aS (aK 0 33 (.a 33 (.q 34 (.q 35 .nil)))) ?_;refine av ?_;exact bl ⟨_,_,Wk.aW az,rfl,rfl⟩):A:=s
def zbq(s:A:=by rw[ae rfl];have e:=w b u;have O:=mF code d b;generalize iC code d b=a at *;have⟨s,t⟩:=a;simp only at e O |-;refine aj func174 ntmps174 ?_;refine I [0] z ?_;refine I [0] e ?_;exact aw):A:=s
def zbr(s:A:=by exact⟨_,_,Wk.aW az,rfl,rfl,fun j x y h=>by omega⟩):A:=s
def zbs(h:B)(s:PLift B->A:=by intro hQ;unfold gC lU lr cB;rw[D (show ¬(T.mk n l).n.s=_ from B),D (show ¬(T.mk n l).n.s=_ from W),D (show ¬(T.mk n l).n.s=_ from q)];show(match p.ak.findIdx? (fun f:Go.Sp.Fn=>f.name==n.s)with|none=>_|some i=>_)=_;rw[hx];exact hQ.1):A:=s ⟨h⟩
def zbt(s:A:=by rw[show(st.ak.map qI).length+[qI (s,b)].length=(st.ak++[(s,b)]).length by simp,<-wW qI st.ak (s,b)];refine bp ?_;refine dz ?_;exact⟨rfl,{ h with aT:=a3,cT:=c3,aF:=a4,cF:=c4 },rfl⟩):A:=s
def zbu(s:A:=by simp only[Option.some.injEq,Prod.mk.injEq,true_and]at h;subst h;unfold mS at *;unfold dD at *;refine Z ?_;refine aZ [0,1,2,3,4,5,6] d ?_;refine Z ?_;refine aZ [0,1,5,6] S ?_;exact dj):A:=s
def zbv(h:B)(s:PLift B->A:=by intro hQ;refine Z ?_;refine aS (aK 0 6 (.q 7 (.q 10 (.a 6 (.q 8 (.q 9 (.a 11 (.a 12 (.q 13 .nil))))))))) ?_;refine av ?_;refine cj [] jW ?_;refine cj [0] (dq p 0 A aN) ?_;refine cj [] (kv (levels.getD k []) (p.aE 0) (Cm k o)) ?_;exact hQ.1):A:=s ⟨h⟩
def zbw(s:A:=by exact .inr ⟨x,rfl,v.tr (y:=.error x) u⟩):A:=s
def zbx(s:A:=by refine I [0] (cZ o [59] j aN) ?_;refine zac ?_;refine I [] (iF 12 at_ [] [e] _ o8) ?_;exact fo):A:=s
def zby(s:A:=by refine av ?_;exact aB):A:=s
def zbz(h:B)(s:PLift B->A:=by intro hQ;refine fH ?_;refine Z ?_;exact hQ.1):A:=s ⟨h⟩
def zbA(s:A:=by refine⟨one (if is p 0 fZ=true then 9 else 10) (tok p 0).at_ [] [c,b],q2,fun g z=>?_,by grind,N⟩;obtain⟨g,rfl,o,j⟩:=pE z;rw[iS,u,ae A.code,D F,ae J,H g j];grind):A:=s
def zbB(s:A:=by refine aj func374 ntmps374 ?_;refine I [0] c ?_;refine aS (aK 0 17 .nil) ?_;refine bp ?_;refine I [0] (jX b e) ?_;refine I [0] (j4 b 7 b.place) ?_;refine p6 ?_;exact zaU):A:=s
def zbC(s:A:=by exact this.trans (dh (this.ok A) _)):A:=s
def zbD(s:A:=by refine⟨B++e,by grind,?_⟩;rw[gS]at N |-;rw[bf]at N |-;rw[<-nD];exact v.app N):A:=s
def zbE(s:A:=by have⟨M,_⟩:=fi o;simp only[T.n,M,nX];rfl):A:=s
def zbF(h:B)(s:PLift B->A:=by intro hQ;refine aS (aK 0 3 (.a 3 (.a 4 (.a 5 (.q 6 (.a 7 .nil)))))) ?_;refine av ?_;exact hQ.1):A:=s ⟨h⟩
def zbG(s:A:=by refine jY di ec ?_;refine bp ?_;exact⟨_,_,Wk.aW az,gU.put { x with s:=sg } hx rfl (by show sg.length<=_;omega) (e.ah x (bB hx)) (fun _=>rfl) E u F e o⟩):A:=s
def zbH(s:A:=by rw[ae e]at h;simp only[Option.some.injEq,Prod.mk.injEq]at h;obtain⟨rfl,rfl⟩:=h;exact ST X (rD i (.inl O) j (fun _=>rfl) fun h=>absurd h (by grind))):A:=s
def zbI(s:A:=by refine I [] w ?_;exact aw):A:=s
def zbJ(s:A:=by grind[Value.ownBlock]):A:=s
def zbL(s:A:=by rw[ae e]at h;simp only[Option.some.injEq,Prod.mk.injEq]at h;obtain⟨rfl,rfl⟩:=h;exact ST X (tt i J j (fun _=>rfl) fun h=>absurd h (by grind))):A:=s
def zbM(s:A:=by refine Z ?_;have k:=gk (.mk ⟨5,a,0,s,ks⟩ l) 1 V;refine I [] k ?_;exact aw):A:=s
def zbN(s:A:=by refine aj func230 ntmps230 ?_;refine zag ?_;refine aZ [0,1,5,6] A ?_;exact aB):A:=s
def zbO(s:A:=by exact this.trans (bT (this.ok H) aC)):A:=s
def zbP(s:A:=by simp only[bZ]at h;exact fh (a:=0) (b:=0) aI (N _ _) (fun v t y u=>eG ab6 (eG ab6 (fh (a:=0) (b:=0) aI (N _ _) (fun v t y u=>eG ab6 ab6)))) h):A:=s
def zbQ(s:A:=by simp only[bZ]at h;exact en q (N _ _) (fun v t y u=>dX (bJ (R _)) (dX (bJ (R _)) (en q (N _ _) (fun v t y u=>dX (bJ (R _)) (bJ (R _)))))) h):A:=s
def zbR(s:A:=by rw[W]at q;refine Z ?_;refine jT [] q ?_;refine Z ?_;exact⟨rfl,rfl,_,_,(Wk.cut (n:=0) (aQ _) rfl).trans (Wk.aW az),rfl,rfl,nh r o l W⟩):A:=s
def zbS(s:A:=by refine I [0] S ?_;refine zbz ?_;exact⟨(g,J++[a],N),⟨_,_,Wk.aW az,_,_,rfl,rfl,by simp[V],by rw[vU,H],by show n+1+g<=f+1;omega,i,h⟩,by simp⟩):A:=s
def zbT(s:A:=by refine zbz ?_;exact⟨rfl,rfl,_,_,Wk.aW az,_,_,_,rfl,rfl,by simp[e],b.symm⟩):A:=s
def zbU(h:B)(s:PLift B->A:=by intro hQ;refine Z ?_;refine I [] R ?_;exact hQ.1):A:=s ⟨h⟩
def zbV(h:B)(s:PLift B->A:=by intro hQ;refine GL.q (YG.tG rfl) ?_;refine zap ?_;refine zaf ?_;exact hQ.1):A:=s ⟨h⟩
def zbW(s:A:=by rw[E.bP,E.full,E.tree,wt];simp only[gy,bf,length_cons,length_nil];omega):A:=s
def zbX(s:A:=by simp only[S.ok,aU]at h;have v:=E.hY c h.1;have w:=lS c;have N:=S.vr b h.2;rw[S.tree,ef,dK,dK,dK,v,N];simp[cK,own,T.n,T.au,bW];exact w):A:=s
def zbY(s:A:=by refine zao ?_;refine bx [] (vh s X) ?_;rintro _ _⟨rfl,p,W,b,R,V,rfl⟩;refine zao ?_;refine fJ ?_;exact⟨B,p,u,by omega,V,rfl,rfl⟩):A:=s
def zbZ(s:A:=by refine aj func200 ntmps200 ?_;refine I [] S ?_;refine I [] r ?_;exact aw):A:=s
def zb0(h:B)(s:PLift B->A:=by intro hQ;refine I [] e ?_;refine I [] d ?_;exact hQ.1):A:=s ⟨h⟩
def zb1(s:A:=by rw[B]at G;refine aj func198 ntmps198 ?_;refine I [] M ?_;refine I [] u ?_;refine I [] N ?_;refine I [] G ?_;refine nj ?_;exact zak):A:=s
def zb2(s:A:=by refine jB ?_;refine GL.wk (Wk.freeze (i:=1) rfl rfl rfl (bg _)) ?_;refine GN (by simp only[n1,nr];rfl) ?_;refine Z ?_;exact zbg):A:=s
def zb3(h:B)(s:PLift B->A:=by intro hQ;refine aS (aK 0 7 (.a 7 (.a 8 (.q 9 (.q 10 (.a 11 .nil)))))) ?_;refine av ?_;refine zar ?_;exact hQ.1):A:=s ⟨h⟩
def zb4(s:A:=by refine Z ?_;exact⟨rfl,rfl,_,_,Wk.aW az,rfl,rfl,by rw[j,m];rfl⟩):A:=s
def zb5(s:A:=by exact⟨1,⟨_,_,Wk.aW az,rfl,rfl,by omega,A 1 rfl o⟩,by omega⟩):A:=s
def zb6(s:A:=by rw[S.tk]at o;obtain⟨t,r,rfl,M,_⟩:=map_cons o;have⟨M,_⟩:=qC M;exact⟨t,r,rfl,fun rest=>⟨jQ M aC,jQ M aC⟩⟩):A:=s
def zb7(h:B)(s:PLift B->A:=by intro hQ;refine zac ?_;refine I [0] hw ?_;exact hQ.1):A:=s ⟨h⟩
def zb8(s:A:=by refine Z ?_;refine zbz ?_;exact⟨rfl,rfl,_,_,(Wk.cut (n:=3) (ed rfl) rfl).trans (Wk.aW az),_,_,rfl,rfl,by simp[c],b.symm⟩):A:=s
def zb9(s:A:=by simp only;obtain⟨g,rfl⟩:∃g',g=g'+1:=⟨g-1,by omega⟩;rw[qg,D (by rw[mj (cv.err n)];decide),iG (cv.err n) aC]):A:=s
def zca(s:A:=by refine I [] S ?_;exact aw):A:=s
def zcb(s:A:=by refine Z ?_;refine I [] u ?_;exact⟨rfl,rfl,_,_,(Wk.cut (n:=0) (ed rfl) rfl).trans (Wk.aW az),_,rfl,rfl,by rw[R,G]⟩):A:=s
def zcc(s:A:=by have⟨i,E,G,r⟩:=h B K β w l H N S;exact k B i E w l H G r):A:=s
def zcd(s:A:=by refine bp ?_;exact⟨rfl,rfl,_,_,Wk.aW az,rfl,rfl,nh r n l W⟩):A:=s
def zce(s:A:=by refine aj func230 ntmps230 ?_;refine aZ [0,1,2,3,4,5,6] T ?_;refine Z ?_;refine aZ [0,1,5,6] N ?_;refine Z ?_;exact zbI):A:=s
def zcf(h:B)(s:PLift B->A:=by intro hQ;rw[rs,D aI];simp only;rw[D (c _ aC),D (fun h=>h.elim (c _ aC) (c _ aC)),D (c _ aC)];exact hQ.1):A:=s ⟨h⟩
def zcg(h:B)(s:PLift B->A:=by intro hQ;refine bm ?_;simp only[nil_append,length_nil,iX];refine Z ?_;exact hQ.1):A:=s ⟨h⟩
def zci(s:A:=by refine GL.wk (Wk.xe (i:=2) (o:=5) rfl rfl rfl rfl G) ?_;refine ct ?_;refine I [0] (cZ p [125] e aN) ?_;exact fo):A:=s
def zcj(s:A:=by refine I [] k ?_;exact zah):A:=s
def zck(s:A:=by refine I [0] i ?_;exact aw):A:=s
def zcl(s:A:=by refine aj func211 ntmps211 ?_;refine za4 ?_;refine aJ [] k ?_;refine Z ?_;refine dz ?_;exact⟨rfl,i,j,rfl⟩):A:=s
def zcm(s:A:=by refine aS (.q 0 (.q 1 (.a 2 (.a 3 (.q 4 .nil))))) ?_;refine av ?_;refine aJ [] S ?_;refine aJ [] d ?_;exact aB):A:=s
def zcn(h:B)(s:PLift B->A:=by intro hQ;refine Z ?_;refine I [] M ?_;exact hQ.1):A:=s ⟨h⟩
def zco(h:B)(s:PLift B->A:=by intro hQ;refine zac ?_;refine I [0] G ?_;refine aS (aK 0 6 (.a 6 (.a 7 (.a 8 (.q 9 (.q 10 (.a 11 .nil))))))) ?_;refine av ?_;refine aJ [0] A ?_;refine zar ?_;exact hQ.1):A:=s ⟨h⟩
def zcp(h:B)(s:PLift B->A:=by intro hQ;refine cW ?_;refine av ?_;exact hQ.1):A:=s ⟨h⟩
def zcq(s:A:=by exact this.trans (M _ _ _ _ (this.ok A) h)):A:=s
def zcr(s:A:=by simp only[S.ok]at h;have v:=E.hY a h;have w:=lS a;rw[S.tree,ef,dK,dK,v];simp[cK,own,T.n,T.au,bW];exact w):A:=s
def zcs(s:A:=by subst j;refine Z ?_;refine aS (aK 0 8 (.a 8 (.q 9 (.q 10 .nil)))) ?_;refine bp ?_;refine I [0] E ?_;exact jw):A:=s
def zct(s:A:=by rw[R.nw]at j;simp only[bZ]at h;exact gb (b:=0) (E _ _ j z m) (q _ _ m) (fun v t y u d _=>c6 d) (qi _) h):A:=s
def zcu(s:A:=by refine zao ?_;exact⟨rfl,rfl,_,_,Wk.aW az,b,c,rfl,rfl⟩):A:=s
def zcv(s:A:=by refine zau ?_;intro o q;refine zaJ ?_;exact⟨rfl,rfl,_,_,Wk.aW az,o,q,_,_,_,rfl,rfl,by simp[d],e.symm⟩):A:=s
def zcw(s:A:=by refine aj func230 ntmps230 ?_;refine zag ?_;refine aZ [0,1,5,6] z ?_;refine Z ?_;refine I [] C ?_;exact aw):A:=s
def zcx(s:A:=by exact⟨fun t r h=>(by cases h),fun _ h=>(by cases h)⟩):A:=s
def zcy(s:A:=by refine bm ?_;exact aB):A:=s
def zcz(s:A:=by refine Z ?_;exact⟨rfl,rfl,_,_,(Wk.cut (n:=1) (bg _) rfl).trans (Wk.aW az),rfl,rfl,by rw[j,l,w];rfl⟩):A:=s
def zcA(s:A:=by refine⟨z,N.tr S,fun G=>?_⟩;obtain⟨u,r,rfl,_,_⟩:=map_cons M;rw[length_cons,<-nD,rj C w,V];simp):A:=s
def zcB(s:A:=by exact h B K _ u _ H G ((S.mono (cY.refl K) (gK (by rw[N.out _ (aQ _)];trivial))).put d (.loc _ 0 b bH))):A:=s
def zcC(h:B)(s:PLift B->A:=by intro hQ;refine aS (aK 0 10 (.a 10 (.a 11 .nil))) ?_;refine bp ?_;exact hQ.1):A:=s ⟨h⟩
def zcD(s:A:=by refine aj func198 ntmps198 ?_;refine I [] M ?_;refine I [] u ?_;refine I [] o ?_;refine nj ?_;exact zak):A:=s
def zcE(s:A:=by refine zao ?_;refine fJ ?_;exact⟨B,p,u,R,V,rfl,rfl⟩):A:=s
def zcF(s:A:=by refine zao ?_;refine I [] B ?_;refine iY ?_;exact kD (n:=2) rfl c8 rfl (aQ _) rfl rfl ⟨rfl,G,rfl,E⟩):A:=s
def zcG(s:A:=by simp only[S.ok,aU]at h;have v:=vq b h.2 d;rw[S.tree,lb,List.map_cons,kp c h.1,qu,qu,qu,v,S.bP];rfl):A:=s
def zcH(s:A:=by rw[G]at l;rw[om T l];exact aB):A:=s
def zcI(s:A:=by have⟨T,F⟩:=a;simp only at e j o u E;refine Z ?_;refine I [0] G ?_;refine I [0] u ?_;exact zan):A:=s
def zcJ(s:A:=by rw[ae (.inr (by simpa using hz))]at j;subst j;refine za5 ?_;refine Z ?_;refine I [0] E ?_;exact jw):A:=s
def zcK(s:A:=by refine aj func337 ntmps337 ?_;refine zb0 ?_;refine GL.q (YG.X9 rfl rfl s r) ?_;refine bm ?_;exact nC):A:=s
def zcL(s:A:=by rw[E.tree,fR,eL,eL];exact⟨fun h=>absurd h (by simp),fun h=>absurd h (by simp),E.wf a,trivial⟩):A:=s
def zcM(s:A:=by refine av ?_;refine aJ [] o ?_;exact aB):A:=s
def zcN(h:B)(s:PLift B->A:=by intro hQ;refine Z ?_;refine aS (aK 0 9 .nil) ?_;exact hQ.1):A:=s ⟨h⟩
def zcO(s:A:=by refine zaf ?_;refine cb ?_;exact⟨s,G,t,q,rfl,rfl⟩):A:=s
def zcP(s:A:=by simp[nT,E.z,trivial,zT,S.tree]):A:=s
def zcQ(s:A:=by rw[D (by rintro(h|h);(· cases h);(· simp at hz;omega))]at j;subst j;refine za5 ?_;exact iV):A:=s
def zcR(s:A:=by rename_i a V R;have:=T.trans (M _ _ _ _ (T.ok A) R);exact this.trans (v _ _ _ _ _ (this.ok A) h)):A:=s
def zcS(h:B)(s:PLift B->A:=by intro hQ;refine Z ?_;refine iY ?_;exact hQ.1):A:=s ⟨h⟩
def zcT(h:B)(s:PLift B->A:=by intro hQ;refine aZ [0,1,2,3,4,5,6] m ?_;refine Z ?_;refine GL.q (YG.QC rfl rfl) ?_;exact hQ.1):A:=s ⟨h⟩
def zcU(s:A:=by refine dZ ?_;exact aB):A:=s
def zcV(s:A:=by exact F _ (by rw[R.nw]) (by rw[gR])):A:=s
def zcW(h:B)(s:PLift B->A:=by intro hQ;refine aS (aK 0 24 .nil) ?_;refine bp ?_;refine I [0] (jX p B) ?_;refine I [0] (j4 p 7 p.place) ?_;refine cb ?_;rw[RS.name,ae k,o];exact hQ.1):A:=s ⟨h⟩
def zcX(s:A:=by exact⟨rfl,rfl,_,_,(Wk.cut (n:=0) (aQ _) rfl).trans (Wk.aW az),rfl,rfl,by simpa using s⟩):A:=s
def zcY(h:B)(s:PLift B->A:=by intro hQ;refine GL.q (YG.XO rfl rfl) ?_;refine bm ?_;refine GL.q (YG.V2 rfl rfl) ?_;refine zaf ?_;refine aS (aK 0 13 .nil) ?_;refine av ?_;exact hQ.1):A:=s ⟨h⟩
def zcZ(s:A:=by rw[mf,bf];have:=ni (l.take k);omega):A:=s
def zc0(s:A:=by refine OA rfl rfl ?_;refine GL.xw rfl rfl rfl aO rfl rfl rfl rfl ?_;refine zcp ?_;exact dj):A:=s
def zc1(s:A:=by refine I [0] u ?_;refine zac ?_;refine I [0] w ?_;refine zac ?_;refine I [] n ?_;exact aw):A:=s
def zc2(s:A:=by unfold nZ at this;simp only[aU,Bool.not_eq_true',decide_eq_false_iff_not]at this;omega):A:=s
def zc3(s:A:=by exact uN f _ _ _ _ (fun k d o e=>by cases e) h v):A:=s
def zc4(s:A:=by refine Z ?_;refine dz ?_;exact⟨rfl,j,m,rfl⟩):A:=s
def zc5(s:A:=by refine GL.wk (Wk.ky (t:=108) rfl rfl rfl rfl) ?_;refine ct ?_;refine I [] n ?_;exact aw):A:=s
def zc6(s:A:=by refine zbk ?_;refine iY ?_;exact kD (n:=1) rfl c8 rfl (ed rfl) rfl rfl ⟨_,rfl,rfl⟩):A:=s
def zc7(s:A:=by refine zbz ?_;exact⟨rfl,rfl,_,_,Wk.aW az,_,_,rfl,rfl,by simp[G],j.symm,by omega⟩):A:=s
def zc8(h:B)(s:PLift B->A:=by intro hQ;refine zav ?_;refine I [0] S ?_;refine I [0] hn ?_;refine I [0] h5 ?_;exact hQ.1):A:=s ⟨h⟩
def zc9(s:A:=by rw[S.tree,kP,fm,fm];simp_all[pN,E.sx,trivial]):A:=s
def zda(s:A:=by exact .inl ⟨rfl,rfl,rfl,by simp,fun k hk _=>Below.heap_alloc _ _ _ (by simp_all)⟩):A:=s
def zdc(s:A:=by simp only[Option.some.injEq,Prod.mk.injEq]at h;obtain⟨rfl,rfl⟩:=h;exact ST X B):A:=s
def zdd(s:A:=by refine zaY ?_;refine av ?_;refine cj [] hG ?_;refine Z ?_;refine I [0] L ?_;exact jw):A:=s
def zde(h:B)(s:PLift B->A:=by intro hQ;unfold cC;refine Z ?_;refine aS (aK 0 6 (.a 6 .nil)) ?_;refine av ?_;exact hQ.1):A:=s ⟨h⟩
def zdf(s:A:=by refine dz ?_;exact⟨rfl,h,rfl⟩):A:=s
def zdg(s:A:=by rw[this];exact⟨fun v=>(by cases v),fun _=>⟨_,sD fun f=>by rw[rs,ae aI]⟩⟩):A:=s
def zdh(h:B)(s:PLift B->A:=by intro hQ;refine Z ?_;refine aZ [0,1,2,3,4,5,6] d ?_;refine Z ?_;refine aZ [0,1,5,6] S ?_;refine Z ?_;refine aZ [0,1,2,3,4,5,6] i ?_;exact hQ.1):A:=s ⟨h⟩
def zdj(s:A:=by refine aS (aK 0 6 (.a 6 (aK 7 3 .nil))) ?_;refine av ?_;refine aJ [] G ?_;exact aB):A:=s
def zdk(h:B)(s:PLift B->A:=by intro hQ;refine aS (.q 1 (.q 2 (.a 0 (.a 3 .nil)))) ?_;refine av ?_;refine aJ [] wT ?_;refine aJ [] d ?_;refine Z ?_;refine p8 ?_;exact hQ.1):A:=s ⟨h⟩
def zdl(s:A:=by rw[N,dx]at m;rw[mg m];exact aB):A:=s
def zdm(s:A:=by refine Z ?_;exact⟨_,_,Wk.aW az,_,l,rfl,by rw[d];rfl,.inl ⟨rfl,rfl,rfl⟩⟩):A:=s
def zdn(s:A:=by refine⟨_,fun d ty pos af=>?_,.v _⟩;simp[execOp,eqGuard,S.eT hx,S.eT J,this]):A:=s
def zdo(s:A:=by exact eR (E b t q) fun v t q=>eH (fun _=>⟨_,_,rfl,q⟩) fun _=>⟨_,_,rfl,q⟩):A:=s
def zdp(s:A:=by refine iY ?_;exact kD (n:=6) rfl c8 rfl (bg _) rfl rfl ⟨rfl,H,J.leave u,rfl⟩):A:=s
def zdq(h:B)(s:PLift B->A:=by intro hQ;refine I [0] (cZ _ [61] A aN) ?_;refine I [0] (xX (d+1) _ e o z X m) ?_;refine I [0] (cZ o [59] j aN) ?_;refine zac ?_;exact hQ.1):A:=s ⟨h⟩
def zdr(h:B)(s:PLift B->A:=by intro hQ;refine Z ?_;refine I [] V ?_;exact hQ.1):A:=s ⟨h⟩
def zds(h:B)(s:PLift B->A:=by intro hQ;refine Z ?_;refine I [] u ?_;exact hQ.1):A:=s ⟨h⟩
def zdt(h:B)(s:PLift B->A:=by intro hQ;refine Z ?_;refine aZ [0,1,2,3,4,5,6] hv ?_;refine Z ?_;refine GL.ij 8 (n:=k) rfl rfl rfl rfl rfl rfl rfl rfl Jj ke ?_;exact hQ.1):A:=s ⟨h⟩
def zdu(s:A:=by simp[eL,E.wf,trivial,fR,S.tree]):A:=s
def zdv(s:A:=by refine dZ ?_;exact⟨_,_,Wk.aW az,q,p,_,_,_,_,ns,rfl,rfl,⟨r,n,o,t⟩,m,b⟩):A:=s
def zdw(s:A:=by simp only[S.ok,aU]at h;rw[S.tree,lb,List.map_cons,kp a h.2,S.bP];simp[zC]):A:=s
def zdx(s:A:=by refine Z ?_;have k:=gk (.mk ⟨9,a,0,s,ks⟩ l) 1 W;refine I [] k ?_;exact aw):A:=s
def zdy(s:A:=by rw[S.ok,aU]at h;rw[S.tree,kP,fm,fm,fm,kP];simp_all[pN,E.sx,S.D9,trivial]):A:=s
def zdz(s:A:=by generalize tok p 0=tk at *;refine Z ?_;refine zb7 ?_;refine zac ?_;exact zbI):A:=s
def zdA(s:A:=by obtain⟨g,rfl,c⟩:=mY c;rw[iE,l,ae j.code,D v,D (by grind),ae w,E g aI]):A:=s
def zdB(s:A:=by exact⟨_,_,by rw[bZ],aQ _⟩):A:=s
def zdC(s:A:=by rw[List.contains_cons,List.contains_nil,Bool.or_false];exact Bool.beq_comm):A:=s
def zdD(s:A:=by grind[Option.some.injEq,Prod.mk.injEq,zH]):A:=s
def zdE(s:A:=by grind[Option.some.injEq,Prod.mk.injEq,zI]):A:=s
def zdF(h:B)(s:PLift B->A:=by intro hQ;rw[rs,D aI];simp only;rw[D (R _ (by simp)),D (fun h=>h.elim (R _ (by simp)) (R _ (by simp))),D (R _ (by simp))];exact hQ.1):A:=s ⟨h⟩
def zdG(s:A:=by simp only[bZ]at h;exact fh (a:=0) (b:=0) aI (N _ _) (fun v t y u=>ab6) h):A:=s
def zdH(s:A:=by refine mn ?_;exact zaU):A:=s
def zdI(h:B)(s:PLift B->A:=by intro hQ;refine Z ?_;refine cb ?_;exact hQ.1):A:=s ⟨h⟩
def zdJ(h:B)(s:PLift B->A:=by intro hQ;refine aS (aK 0 7 (.a 7 .nil)) ?_;refine av ?_;exact hQ.1):A:=s ⟨h⟩
def zdK(s:A:=by refine I [] s ?_;exact aw):A:=s
def zdL(s:A:=by generalize c.fail 23 n.at_=G at *;refine aj func207 ntmps207 ?_;exact zck):A:=s
def zdM(h:B)(s:PLift B->A:=by intro hQ;simp only[Bool.false_eq_true,if_false];exact hQ.1):A:=s ⟨h⟩
def zdO(s:A:=by refine I [] e ?_;exact aw):A:=s
def zdP(s:A:=by simp only[S.ok]at h;rw[S.tree,lb,List.map_cons,kp a h,S.bP];simp[zC]):A:=s
def zdQ(s:A:=by simpa using this):A:=s
def zdR(s:A:=by refine aj func139 ntmps139 ?_;refine I [] m ?_;refine I [] F ?_;exact aw):A:=s
def zdT(s:A:=by obtain⟨g,rfl,o,j⟩:=pE z;rw[iS,u,ae A.code,D F,D J,D Q,ae B,H g j]):A:=s
def zdU(s:A:=by rw[E.tree,fR];exact⟨fun h=>absurd h (by simp),fun _=>rfl,trivial⟩):A:=s
def zdV(h:B)(s:PLift B->A:=by intro hQ;refine I [0] (dq p 0 A aN) ?_;exact hQ.1):A:=s ⟨h⟩
def zdW(s:A:=by refine dZ ?_;exact⟨_,_,Wk.aW az,a,z,n,b,d,rfl,rfl,C,e,by omega,E⟩):A:=s
def zdX(s:A:=by rw[D (by rintro(h|h);(· cases h);(· simp at o;omega))];exact zbi):A:=s
def zdY(h:B)(s:PLift B->A:=by intro hQ;refine Z ?_;refine I [] l ?_;refine I [] b ?_;exact hQ.1):A:=s ⟨h⟩
def zdZ(s:A:=by grind[mS,one,RS.place,RS.a6]):A:=s
def zd0(s:A:=by grind[dK,cK,own,T.n,T.au,bW,ef,E.tree]):A:=s
def zd1(s:A:=by grind[dK,cK,own,T.n,T.au,bW,ef,S.tree]):A:=s
def zd2(h:B)(s:PLift B->A:=by intro hQ;refine Z ?_;refine I [] F ?_;refine I [] d ?_;refine I [] r ?_;refine I [2] b ?_;refine aS (aK 0 17 .nil) ?_;exact hQ.1):A:=s ⟨h⟩
def zd3(s:A:=by refine aj func228 ntmps228 ?_;exact zca):A:=s
def zd4(s:A:=by unfold mS at *;unfold dD at *;exact zaj):A:=s
def zd5(h:B)(s:PLift B->A:=by intro hQ;refine GL.wk (Wk.ky (t:=57) rfl rfl rfl rfl) ?_;refine ct ?_;exact hQ.1):A:=s ⟨h⟩
def zd6(s:A:=by refine Z ?_;exact⟨rfl,rfl,_,_,Wk.aW az,rfl,rfl,by rw[n,m];rfl⟩):A:=s
def zd7(s:A:=by exact⟨0,⟨_,_,Wk.aW az,rfl,rfl,by omega,A 0 rfl o⟩,by omega⟩):A:=s
def zd8(s:A:=by refine aj func260 ntmps260 ?_;exact aw):A:=s
def zd9(s:A:=by refine aj func259 ntmps259 ?_;exact aw):A:=s
def zea(s:A:=by rw[w]at R;refine aj func133 ntmps133 ?_;refine I [] R ?_;exact aw):A:=s
def zeb(s:A:=by refine aj func135 ntmps135 ?_;exact aw):A:=s
def zec(s:A:=by refine aj func176 ntmps176 ?_;refine aS (aK 0 10 .nil) ?_;exact zby):A:=s
def zed(h:B)(s:PLift B->A:=by intro hQ;refine I [0] M ?_;exact hQ.1):A:=s ⟨h⟩
def zee(h:B)(s:PLift B->A:=by intro hQ;refine Z ?_;refine I [] i ?_;refine GL.wk (Wk.ky (t:=59) rfl rfl rfl e) ?_;refine zaJ ?_;refine I [] C ?_;exact hQ.1):A:=s ⟨h⟩
def zef(s:A:=by exact Ld (k:=0) (q:=0) (h:=(0,0)) z A d Q o 0 (.inl ⟨rfl,rfl⟩)):A:=s
def zeg(s:A:=by rw[this];exact⟨fun v=>(by cases v),fun _=>⟨_,Ev.Sy aI⟩⟩):A:=s
def zeh(s:A:=by simp[eL,E.wf,S.Ef,trivial,fR,S.tree]):A:=s
def zei(s:A:=by have⟨r,s,c⟩:=List.mem_flatten.1 (bB V);exact(N r s).2 g c):A:=s
def zej(s:A:=by have⟨r,s,c⟩:=List.mem_flatten.1 (bB R);exact(N r s).2 g c):A:=s
def zek(s:A:=by have⟨r,s,e⟩:=List.mem_flatten.1 (bB R);exact(N r s).2 g e):A:=s
def zel(s:A:=by have:=iO t;omega):A:=s
def zem(h:B)(s:PLift B->A:=by intro hQ;refine zaX ?_;refine dz ?_;exact hQ.1):A:=s ⟨h⟩
def zen(s:A:=by exact⟨_,_,rfl,rfl⟩):A:=s
def zeo(h:B)(s:PLift B->A:=by intro hQ;simp only[oset,bU];refine aS (aK 0 7 (.a 7 (.a 8 (aK 9 3 (.a 12 .nil))))) ?_;refine av ?_;refine zar ?_;exact hQ.1):A:=s ⟨h⟩
def zep(s:A:=by simp only[bZ]at h;exact en q (N _ _) (fun v t y u=>bJ (R _)) h):A:=s
def zeq(h:B)(s:PLift B->A:=by intro hQ;refine Z ?_;refine I [] A ?_;exact hQ.1):A:=s ⟨h⟩
def zer(s:A:=by simp[nT,E.z,S.zs,trivial,zT,S.tree]):A:=s
def zes(s:A:=by exact⟨pN (by simp) (by simp) (by simp),E.sx a h.2,trivial⟩):A:=s
def zet(s:A:=by rw[ae (by simpa using i)];exact zad):A:=s
def zeu(s:A:=by exact⟨_,_,Wk.aW az,j,m,rfl,rfl⟩):A:=s
def zev(s:A:=by rw[mf,bf];have:=ni l;omega):A:=s
def zew(h:B)(s:PLift B->A:=by intro hQ;rw[show(lD st.aM).length+[[qT t]].length=(st.aM++[t]).length by simp[nW],<-vU st.aM t];refine bp ?_;exact hQ.1):A:=s ⟨h⟩
def zex(s:A:=by refine zbk ?_;refine nj ?_;exact zak):A:=s
def zey(s:A:=by refine Z ?_;have k:=tQ s;rw[t]at k;refine I [] k ?_;exact aw):A:=s
def zez(h:B)(s:PLift B->A:=by intro hQ;refine I [] S ?_;refine aS (aK 0 8 (.a 8 (.a 9 .nil))) ?_;exact hQ.1):A:=s ⟨h⟩
def zeA(h:B)(s:PLift B->A:=by intro hQ;refine bl ?_;refine Z ?_;exact hQ.1):A:=s ⟨h⟩
def zeB(h:B)(s:PLift B->A:=by intro hQ;refine zaG ?_;refine av ?_;refine cj [0] m ?_;refine cj [] tU ?_;refine cj [0] m ?_;refine cj [] c ?_;exact hQ.1):A:=s ⟨h⟩
def zeC(s:A:=by rename_i b V R;have:=T.trans (M _ _ _ _ (T.ok A) R);exact zcq):A:=s
def zeD(s:A:=by simp[E.tree,T.n]at v):A:=s
def zeE(s:A:=by refine p6 ?_;exact zaU):A:=s
def zeF(s:A:=by rw[w]at h;rw[hit w];refine Z ?_;refine ll [] h ?_;exact aB):A:=s
def zeG(s:A:=by rw[D (by simpa using i)];exact zad):A:=s
def zeH(s:A:=by exact o.tr (y:=.error x) u):A:=s
def zeI(s:A:=by obtain⟨g,rfl,c⟩:=mY c;rw[iE,l,ae j.code,ae v,E g aI,R]):A:=s
def zeJ(s:A:=by exact G.tr (y:=.error x) E):A:=s
def zeK(s:A:=by refine I [0] o ?_;exact aw):A:=s
def zeL(s:A:=by exact absurd v (by simp[one,T.n])):A:=s
def zeM(s:A:=by obtain⟨g,rfl,o,j⟩:=pE z;rw[iS,u,ae A.code,ae F,H g j]):A:=s
def zeN(s:A:=by rw[m]at h;cases h):A:=s
def zeO(s:A:=by rcases k with k|k<;>rw[k]at h<;>simp at h<;>omega):A:=s
def zeP(s:A:=by rw[j]at h;cases h):A:=s
def zeQ(s:A:=by exact absurd i (O8 _ _ _ (fun k d out h=>by cases h) _ _)):A:=s
def zeR(s:A:=by exact⟨by omega,by omega,by omega,fun x hx=>by grind⟩):A:=s
def zeS(s:A:=by exact⟨by grind,by grind,by grind,fun x hx=>by grind⟩):A:=s
def zeT(s:A:=by rw[E.tree,zT,nT,nT];exact⟨fun _=>rfl,E.z a,trivial⟩):A:=s
def zeU(s:A:=by refine I [] G ?_;exact aw):A:=s
def zeV(s:A:=by have:=h.w;unfold cM wS at *;simp only[rF,cL]at *;omega):A:=s
def zeW(h:B)(s:PLift B->A:=by intro hQ;refine aS (aK 0 33 (.a 33 (.q 34 (.q 35 .nil)))) ?_;refine av ?_;refine cj [0] (dq b 1 c aN) ?_;exact hQ.1):A:=s ⟨h⟩
def zeX(s:A:=by rw[r9 r n (p:=fun x y=>x==y) W];refine zcN ?_;exact zby):A:=s
def zeY(s:A:=by refine zao ?_;refine fJ ?_;exact⟨B,p,u,S,T,rfl,rfl⟩):A:=s
def zeZ(h:B)(s:PLift B->A:=by intro hQ;refine zcT ?_;refine zaf ?_;refine aZ [0,1,2,3,4,5,6] T ?_;refine Z ?_;refine aZ [0,1,5,6] R ?_;exact hQ.1):A:=s ⟨h⟩
def ze0(s:A:=by repeat (first|exact dr.n|(apply dr.w;(· decide +kernel))|(apply dr.y;(· first|(apply YQ.t;(· exact rfl);(· exact rfl);(· (first|exact YG.iT 7 rfl rfl rfl ((eb _ _ _ _).trans j) o|(first|exact gw|(apply K.idx;first|exact YG.idxV rfl rfl rfl aO X|exact YG.ba 0 rfl rfl rfl aV|exact YG.ba 1 rfl rfl rfl aV|exact YG.ba 2 rfl rfl rfl aV|exact YG.ba 3 rfl rfl rfl aV|exact YG.ba 4 rfl rfl rfl aV|exact YG.ba 5 rfl rfl rfl aV|exact YG.ba 6 rfl rfl rfl aV)|exact gx|exact YG.gq 1 rfl rfl aO aO|exact YG.mv|exact YG.lB|(apply K.bin;first|exact YG.go rfl|exact YG.j0 rfl rfl X|exact YG.jj rfl rfl|exact YG.jt rfl rfl|exact YG.nI rfl rfl|exact YG.nO rfl rfl|exact YG.cat rfl rfl X|exact YG.cat rfl rfl (by simp only[bf,length_cons,length_nil];omega)|exact YG.da rfl rfl X|exact YG.add rfl rfl X|exact YG.sub rfl rfl X|exact YG.mul rfl rfl X|exact YG.lj rfl rfl X|exact YG.quo rfl rfl X|exact YG.rem rfl rfl X|exact YG.iy rfl rfl)|exact fP|exact fO|exact gP|exact fp|exact fD|(apply K.idx;first|exact YG.ig rfl rfl aY|exact YG.cz rfl rfl aY rfl|exact YG.cz rfl rfl aY X|exact YG.jM rfl rfl X)|exact YG.ext rfl rfl|exact YG.go rfl|(apply K.oI;first|exact YG.lh rfl rfl rfl X|exact YG.lg rfl rfl X|exact YG.lf rfl rfl X|exact YG.gL 1 rfl rfl rfl aO)|exact YG.jn rfl rfl aY|exact YG.idxSC rfl rfl aY rfl|exact fF|exact YG.build rfl|exact YG.neg rfl X|exact YG.jk rfl rfl|exact YG.mD rfl (by first|rfl|exact IntWalk.i64_in _ X|exact IntWalk.u8_in _ X|assumption)|exact YG.str rfl aO))))|(apply YQ.t;(· exact rfl);(· apply pR;(· exact rfl);(· first|exact rfl|assumption));(· (first|exact YG.iT 7 rfl rfl rfl ((eb _ _ _ _).trans j) o|(first|exact gw|(apply K.idx;first|exact YG.idxV rfl rfl rfl aO X|exact YG.ba 0 rfl rfl rfl aV|exact YG.ba 1 rfl rfl rfl aV|exact YG.ba 2 rfl rfl rfl aV|exact YG.ba 3 rfl rfl rfl aV|exact YG.ba 4 rfl rfl rfl aV|exact YG.ba 5 rfl rfl rfl aV|exact YG.ba 6 rfl rfl rfl aV)|exact gx|exact YG.gq 1 rfl rfl aO aO|exact YG.mv|exact YG.lB|(apply K.bin;first|exact YG.go rfl|exact YG.j0 rfl rfl X|exact YG.jj rfl rfl|exact YG.jt rfl rfl|exact YG.nI rfl rfl|exact YG.nO rfl rfl|exact YG.cat rfl rfl X|exact YG.cat rfl rfl (by simp only[bf,length_cons,length_nil];omega)|exact YG.da rfl rfl X|exact YG.add rfl rfl X|exact YG.sub rfl rfl X|exact YG.mul rfl rfl X|exact YG.lj rfl rfl X|exact YG.quo rfl rfl X|exact YG.rem rfl rfl X|exact YG.iy rfl rfl)|exact fP|exact fO|exact gP|exact fp|exact fD|(apply K.idx;first|exact YG.ig rfl rfl aY|exact YG.cz rfl rfl aY rfl|exact YG.cz rfl rfl aY X|exact YG.jM rfl rfl X)|exact YG.ext rfl rfl|exact YG.go rfl|(apply K.oI;first|exact YG.lh rfl rfl rfl X|exact YG.lg rfl rfl X|exact YG.lf rfl rfl X|exact YG.gL 1 rfl rfl rfl aO)|exact YG.jn rfl rfl aY|exact YG.idxSC rfl rfl aY rfl|exact fF|exact YG.build rfl|exact YG.neg rfl X|exact YG.jk rfl rfl|exact YG.mD rfl (by first|rfl|exact IntWalk.i64_in _ X|exact IntWalk.u8_in _ X|assumption)|exact YG.str rfl aO))))|(apply YQ.f;(· exact rfl);(· apply qA;(· exact rfl);(· first|exact rfl|assumption))))))):A:=s
def ze1(s:A:=by repeat (first|exact dr.n|(apply dr.w;(· decide +kernel))|(apply dr.y;(· first|(apply YQ.t;(· exact rfl);(· exact rfl);(· (first|exact YG.iT 7 rfl rfl rfl j o|(first|exact gw|(apply K.idx;first|exact YG.idxV rfl rfl rfl aO X|exact YG.ba 0 rfl rfl rfl aV|exact YG.ba 1 rfl rfl rfl aV|exact YG.ba 2 rfl rfl rfl aV|exact YG.ba 3 rfl rfl rfl aV|exact YG.ba 4 rfl rfl rfl aV|exact YG.ba 5 rfl rfl rfl aV|exact YG.ba 6 rfl rfl rfl aV)|exact gx|exact YG.gq 1 rfl rfl aO aO|exact YG.mv|exact YG.lB|(apply K.bin;first|exact YG.go rfl|exact YG.j0 rfl rfl X|exact YG.jj rfl rfl|exact YG.jt rfl rfl|exact YG.nI rfl rfl|exact YG.nO rfl rfl|exact YG.cat rfl rfl X|exact YG.cat rfl rfl (by simp only[bf,length_cons,length_nil];omega)|exact YG.da rfl rfl X|exact YG.add rfl rfl X|exact YG.sub rfl rfl X|exact YG.mul rfl rfl X|exact YG.lj rfl rfl X|exact YG.quo rfl rfl X|exact YG.rem rfl rfl X|exact YG.iy rfl rfl)|exact fP|exact fO|exact gP|exact fp|exact fD|(apply K.idx;first|exact YG.ig rfl rfl aY|exact YG.cz rfl rfl aY rfl|exact YG.cz rfl rfl aY X|exact YG.jM rfl rfl X)|exact YG.ext rfl rfl|exact YG.go rfl|(apply K.oI;first|exact YG.lh rfl rfl rfl X|exact YG.lg rfl rfl X|exact YG.lf rfl rfl X|exact YG.gL 1 rfl rfl rfl aO)|exact YG.jn rfl rfl aY|exact YG.idxSC rfl rfl aY rfl|exact fF|exact YG.build rfl|exact YG.neg rfl X|exact YG.jk rfl rfl|exact YG.mD rfl (by first|rfl|exact IntWalk.i64_in _ X|exact IntWalk.u8_in _ X|assumption)|exact YG.str rfl aO))))|(apply YQ.t;(· exact rfl);(· apply pR;(· exact rfl);(· first|exact rfl|assumption));(· (first|exact YG.iT 7 rfl rfl rfl j o|(first|exact gw|(apply K.idx;first|exact YG.idxV rfl rfl rfl aO X|exact YG.ba 0 rfl rfl rfl aV|exact YG.ba 1 rfl rfl rfl aV|exact YG.ba 2 rfl rfl rfl aV|exact YG.ba 3 rfl rfl rfl aV|exact YG.ba 4 rfl rfl rfl aV|exact YG.ba 5 rfl rfl rfl aV|exact YG.ba 6 rfl rfl rfl aV)|exact gx|exact YG.gq 1 rfl rfl aO aO|exact YG.mv|exact YG.lB|(apply K.bin;first|exact YG.go rfl|exact YG.j0 rfl rfl X|exact YG.jj rfl rfl|exact YG.jt rfl rfl|exact YG.nI rfl rfl|exact YG.nO rfl rfl|exact YG.cat rfl rfl X|exact YG.cat rfl rfl (by simp only[bf,length_cons,length_nil];omega)|exact YG.da rfl rfl X|exact YG.add rfl rfl X|exact YG.sub rfl rfl X|exact YG.mul rfl rfl X|exact YG.lj rfl rfl X|exact YG.quo rfl rfl X|exact YG.rem rfl rfl X|exact YG.iy rfl rfl)|exact fP|exact fO|exact gP|exact fp|exact fD|(apply K.idx;first|exact YG.ig rfl rfl aY|exact YG.cz rfl rfl aY rfl|exact YG.cz rfl rfl aY X|exact YG.jM rfl rfl X)|exact YG.ext rfl rfl|exact YG.go rfl|(apply K.oI;first|exact YG.lh rfl rfl rfl X|exact YG.lg rfl rfl X|exact YG.lf rfl rfl X|exact YG.gL 1 rfl rfl rfl aO)|exact YG.jn rfl rfl aY|exact YG.idxSC rfl rfl aY rfl|exact fF|exact YG.build rfl|exact YG.neg rfl X|exact YG.jk rfl rfl|exact YG.mD rfl (by first|rfl|exact IntWalk.i64_in _ X|exact IntWalk.u8_in _ X|assumption)|exact YG.str rfl aO))))|(apply YQ.f;(· exact rfl);(· apply qA;(· exact rfl);(· first|exact rfl|assumption))))))):A:=s
def ze2(s:A:=by repeat (first|exact dr.n|(apply dr.w;(· decide +kernel))|(apply dr.y;(· first|(apply YQ.t;(· exact rfl);(· exact rfl);(· (first|exact gw|(apply K.idx;first|exact YG.idxV rfl rfl rfl aO X|exact YG.ba 0 rfl rfl rfl aV|exact YG.ba 1 rfl rfl rfl aV|exact YG.ba 2 rfl rfl rfl aV|exact YG.ba 3 rfl rfl rfl aV|exact YG.ba 4 rfl rfl rfl aV|exact YG.ba 5 rfl rfl rfl aV|exact YG.ba 6 rfl rfl rfl aV)|exact gx|exact YG.gq 1 rfl rfl aO aO|exact YG.mv|exact YG.lB|(apply K.bin;first|exact YG.go rfl|exact YG.j0 rfl rfl X|exact YG.jj rfl rfl|exact YG.jt rfl rfl|exact YG.nI rfl rfl|exact YG.nO rfl rfl|exact YG.cat rfl rfl X|exact YG.cat rfl rfl (by simp only[bf,length_cons,length_nil];omega)|exact YG.da rfl rfl X|exact YG.add rfl rfl X|exact YG.sub rfl rfl X|exact YG.mul rfl rfl X|exact YG.lj rfl rfl X|exact YG.quo rfl rfl X|exact YG.rem rfl rfl X|exact YG.iy rfl rfl)|exact fP|exact fO|exact gP|exact fp|exact fD|(apply K.idx;first|exact YG.ig rfl rfl aY|exact YG.cz rfl rfl aY rfl|exact YG.cz rfl rfl aY X|exact YG.jM rfl rfl X)|exact YG.ext rfl rfl|exact YG.go rfl|(apply K.oI;first|exact YG.lh rfl rfl rfl X|exact YG.lg rfl rfl X|exact YG.lf rfl rfl X|exact YG.gL 1 rfl rfl rfl aO)|exact YG.jn rfl rfl aY|exact YG.idxSC rfl rfl aY rfl|exact fF|exact YG.build rfl|exact YG.neg rfl X|exact YG.jk rfl rfl|exact YG.mD rfl (by first|rfl|exact IntWalk.i64_in _ X|exact IntWalk.u8_in _ X|assumption)|exact YG.str rfl aO)))|(apply YQ.t;(· exact rfl);(· apply pR;(· exact rfl);(· first|exact rfl|assumption));(· (first|exact gw|(apply K.idx;first|exact YG.idxV rfl rfl rfl aO X|exact YG.ba 0 rfl rfl rfl aV|exact YG.ba 1 rfl rfl rfl aV|exact YG.ba 2 rfl rfl rfl aV|exact YG.ba 3 rfl rfl rfl aV|exact YG.ba 4 rfl rfl rfl aV|exact YG.ba 5 rfl rfl rfl aV|exact YG.ba 6 rfl rfl rfl aV)|exact gx|exact YG.gq 1 rfl rfl aO aO|exact YG.mv|exact YG.lB|(apply K.bin;first|exact YG.go rfl|exact YG.j0 rfl rfl X|exact YG.jj rfl rfl|exact YG.jt rfl rfl|exact YG.nI rfl rfl|exact YG.nO rfl rfl|exact YG.cat rfl rfl X|exact YG.cat rfl rfl (by simp only[bf,length_cons,length_nil];omega)|exact YG.da rfl rfl X|exact YG.add rfl rfl X|exact YG.sub rfl rfl X|exact YG.mul rfl rfl X|exact YG.lj rfl rfl X|exact YG.quo rfl rfl X|exact YG.rem rfl rfl X|exact YG.iy rfl rfl)|exact fP|exact fO|exact gP|exact fp|exact fD|(apply K.idx;first|exact YG.ig rfl rfl aY|exact YG.cz rfl rfl aY rfl|exact YG.cz rfl rfl aY X|exact YG.jM rfl rfl X)|exact YG.ext rfl rfl|exact YG.go rfl|(apply K.oI;first|exact YG.lh rfl rfl rfl X|exact YG.lg rfl rfl X|exact YG.lf rfl rfl X|exact YG.gL 1 rfl rfl rfl aO)|exact YG.jn rfl rfl aY|exact YG.idxSC rfl rfl aY rfl|exact fF|exact YG.build rfl|exact YG.neg rfl X|exact YG.jk rfl rfl|exact YG.mD rfl (by first|rfl|exact IntWalk.i64_in _ X|exact IntWalk.u8_in _ X|assumption)|exact YG.str rfl aO)))|(apply YQ.f;(· exact rfl);(· apply qA;(· exact rfl);(· first|exact rfl|assumption))))))):A:=s
def ze3(s:A:=by grind):A:=s
def ze4(s:A:=by omega):A:=s
def ze5(s:A:=by show ¬(decide (a<0)=true);rw[ha];decide):A:=s
def ze6(s:A:=by simp):A:=s
def ze7(s:A:=by simp only[bf,length_cons,length_nil];omega):A:=s
def ze8(s:A:=by unfold lim;omega):A:=s
def ze9(s:A:=by simpa using jG V 0 t rfl):A:=s
def zfa(s:A:=by rw[List.mem_take_iff_getElem];exact⟨j,by omega,rfl⟩):A:=s
def zfb(s:A:=by simpa using h):A:=s
def zfc(s:A:=by simpa using M):A:=s
def zfd(s:A:=by rw[bC];omega):A:=s
def zfe(s:A:=by grind[bS]):A:=s
def zff(s:A:=by cases h):A:=s
def zfg(s:A:=by grind[ko,aR]):A:=s
def zfh(s:A:=by grind[maxLen]):A:=s
def zfi(s:A:=by grind[List.append_eq_nil_iff]):A:=s
def zfj(s:A:=by simp[execOp,resolve,invoke,builtin,hs,hx,N]):A:=s
def zfk(s:A:=by simpa using T):A:=s
def zfl(s:A:=by first|rfl|exact IntWalk.i64_in _ X|exact IntWalk.u8_in _ X|assumption):A:=s
def zfm(s:A:=by simpa using jG V 1 u rfl):A:=s
def zfn(s:A:=by rw[j];decide):A:=s
def zfo(s:A:=by rw[m];rfl):A:=s
def zfp(s:A:=by unfold lim cy;omega):A:=s
def zfq(s:A:=by simpa using v):A:=s
def zfr(s:A:=by grind[fN]):A:=s
def zfs(s:A:=by grind[fW]):A:=s
def zft(s:A:=by grind[sF]):A:=s
def zfu(s:A:=by grind[kU]):A:=s
def zfv(s:A:=by simpa using z):A:=s
def zfw(s:A:=by rw[kr];omega):A:=s
def zfx(s:A:=by rw[B]):A:=s
def zfy(s:A:=by rfl):A:=s
def zfz(s:A:=by simp[t]):A:=s
def zfA(s:A:=by rw[G]):A:=s
def zfB(s:A:=by decide +kernel):A:=s
def zfC(s:A:=by simp only[n1,nr];rfl):A:=s
def zfD(s:A:=by rw[q];decide):A:=s
def zfE(s:A:=by rw[bq];omega):A:=s
def zfF(s:A:=by simpa using w):A:=s
def zfG(s:A:=by simpa using o):A:=s
def zfH(s:A:=by simpa using r):A:=s
def zfI(s:A:=by simpa using A):A:=s
def zfJ(s:A:=by simpa using k):A:=s
def zfK(s:A:=by simp[rs]):A:=s
def zfL(s:A:=by unfold KF at j;omega):A:=s
def zfM(s:A:=by first|rfl|decide):A:=s
def zfN(s:A:=by grind[T.n]):A:=s
def zfO(s:A:=by rw[C,O,<-Nat.add_mul,H];exact rU _ A):A:=s
def zfP(s:A:=by have:=hn.fresh;have:=h.ext.size;omega):A:=s
def zfQ(s:A:=by rw[E,A];exact growslice_fits ze4 ze4):A:=s
end
end Go
namespace Go
def aI{A:Prop}(s:A:=by omega):A:=s
def aC{A:Prop}(s:A:=by decide):A:=s
section
variable{S:Type _}
def bR{l:List S}{i:Nat}{a:S}(h:l[i]?=some a):∃(h:i<l.length),l[i]=a:=List.getElem?_eq_some_iff.1 h
def ln{a b:S}{l:List S}(h:a∈b::l):a=b\/a∈l:=List.mem_cons.1 h
def vf{a:S}{s t:List S}(h:a∈s++t):a∈s\/a∈t:=List.mem_append.1 h
def Ay{a b:S}(h:a∈[b]):a=b:=List.mem_singleton.1 h
def nE{l:List S}{i:Nat}(h:l[i]?=none):l.length<=i:=List.getElem?_eq_none_iff.1 h
end
def D:type_of% @if_neg:=@if_neg
def ae:type_of% @if_pos:=@if_pos
def aU:type_of% @Bool.and_eq_true:=@Bool.and_eq_true
theorem bB:type_of% @List.mem_of_getElem?:=@List.mem_of_getElem?
theorem bf:type_of% @List.length_append:=@List.length_append
def aQ:type_of% @Nat.le_refl:=@Nat.le_refl
theorem bO:type_of% @List.getElem?_map:=@List.getElem?_map
def bg:type_of% @Nat.zero_le:=@Nat.zero_le
theorem cq:type_of% @List.getElem?_eq_getElem:=@List.getElem?_eq_getElem
theorem bC:type_of% @List.length_map:=@List.length_map
theorem jF:type_of% @List.eq_nil_of_length_eq_zero:=@List.eq_nil_of_length_eq_zero
theorem dc:type_of% @List.take_add_one:=@List.take_add_one
def ed:type_of% @Nat.le_of_ble_eq_true:=@Nat.le_of_ble_eq_true
def dx:type_of% @List.take_length:=@List.take_length
theorem gS:type_of% @List.append_assoc:=@List.append_assoc
def iX:type_of% @Nat.zero_add:=@Nat.zero_add
theorem ew:type_of% @List.mem_cons_of_mem:=@List.mem_cons_of_mem
theorem lz:type_of% @List.getElem?_append_right:=@List.getElem?_append_right
theorem kr:type_of% @List.length_take:=@List.length_take
def fV:type_of% @List.append_nil:=@List.append_nil
def l7:type_of% @List.getElem?_append_left:=@List.getElem?_append_left
def ik:type_of% @List.getElem?_set:=@List.getElem?_set
def uW:type_of% @List.length_zipWith:=@List.length_zipWith
def nD:type_of% @Nat.add_assoc:=@Nat.add_assoc
def sY:type_of% @Nat.sub_self:=@Nat.sub_self
def l8:type_of% @List.drop_eq_getElem_cons:=@List.drop_eq_getElem_cons
theorem kK:type_of% @List.take_of_length_le:=@List.take_of_length_le
theorem jy:type_of% @Nat.le_trans:=@Nat.le_trans
theorem mr:type_of% @List.length_drop:=@List.length_drop
theorem uX:type_of% @Option.some.inj:=@Option.some.inj
def kL:type_of% @List.map_append:=@List.map_append
theorem l9:type_of% @List.contains_iff_mem:=@List.contains_iff_mem
def oe:type_of% @of_decide_eq_true:=@of_decide_eq_true
theorem fa:type_of% @List.all_eq_true:=@List.all_eq_true
theorem dC:type_of% @Int.toNat_natCast:=@Int.toNat_natCast
def rU:type_of% @Nat.mul_le_mul_right:=@Nat.mul_le_mul_right
def BD:type_of% @Nat.lt_of_lt_of_le:=@Nat.lt_of_lt_of_le
theorem uY:type_of% @mem_map:=@mem_map
theorem qQ:type_of% @List.any_eq_true:=@List.any_eq_true
end Go
namespace Go.Xp
abbrev ai:=List UInt8
structure Tok where
 ab:Int
 n:Int
 s:ai
 at_:Int
structure Nd where
 ab:Int
 at_:Int
 n:Int
 s:ai
 au:List Int
inductive T where
 |mk (n:Nd) (au:List T)
def T.n:T->Nd|.mk n _=>n
def T.au:T->List T|.mk _ k=>k
abbrev Er:=Int × Int
abbrev Rd(S:Type):=Except Er (S × List Tok)
def dS(t:Tok):ai:=if t.ab=3 then t.s else[]
def aE(ts:List Tok)(k:Nat):ai:=match ts[k]? with|some t=>dS t|none=>[]
def place(e:Int):List Tok->Int
 |t::_=>t.at_
 |[]=>e
def a6(e:Int)(s:ai)(ts:List Tok):Except Er (List Tok) :=
 if aE ts 0=s then .ok ts.tail else .error (7,place e ts)
def name(e:Int):List Tok->Rd ai
 |[]=>.error (7,e)
 |t::r=>if t.ab=2 then(if t.s.length>12 then .error (8,t.at_)else .ok (t.s,r))else .error (7,t.at_)
def one(n at_:Int)(s:ai)(au:List T):T:=.mk ⟨n,at_,0,s,[]⟩ au
def levels:List (List ai):=[[[124,124]],[[38,38]],[[61,61],[33,61],[60],[62],[60,61],[62,61]],[[124]],[[94]],[[38]],[[60,60],[62,62]],[[43],[45]],[[42],[47],[37]]]
def bs:Er:=(-1,-1)
inductive uq where
 |expr (aX:Nat)
 |level (k aX:Nat)
 |loop (k aX:Nat) (out:T)
 |operand (aX:Nat)
def rd(e:Int):Nat->uq->List Tok->Rd T
 |0,_,_=>.error bs
 |f+1,.expr aX,B=>if aX>60 then .error (9,place e B)else rd e f (.level 0 (aX+1)) B
 |f+1,.level k aX,B =>
  if k=9 then rd e f (.operand aX) B
  else match rd e f (.level (k+1) aX) B with
   |.error x=>.error x
   |.ok (out,B)=>rd e f (.loop k aX out) B
 |f+1,.loop k aX out,B =>
  match B with
  |[]=>.ok (out,B)
  |t::r =>
   if t.ab=3/\t.s∈levels.getD k []then
    match rd e f (.level (k+1) aX) r with
    |.error x=>.error x
    |.ok (b,r)=>rd e f (.loop k aX (one 6 t.at_ t.s [out,b])) r
   else .ok (out,B)
 |f+1,.operand aX,B =>
  if aX>60 then .error (9,place e B)
  else match B with
  |[]=>.error (7,e)
  |t::r =>
   if t.ab=3 then
    if t.s=[45]\/t.s=[33]\/t.s=[126]then
     match rd e f (.operand (aX+1)) r with
     |.error x=>.error x
     |.ok (a,r)=>.ok (one 5 t.at_ t.s [a],r)
    else if t.s=[40]then
     match rd e f (.expr (aX+1)) r with
     |.error x=>.error x
     |.ok (a,r)=>match a6 e [41] r with
      |.error x=>.error x
      |.ok r=>.ok (a,r)
    else .error (7,t.at_)
   else if t.ab=1 then .ok (.mk ⟨1,t.at_,t.n,[],[]⟩ [],r)
   else match name e B with
    |.error x=>.error x
    |.ok (s,r) =>
     if aE r 0=[91]then
      match rd e f (.expr (aX+1)) r.tail with
      |.error x=>.error x
      |.ok (a,r)=>match a6 e [93] r with
       |.error x=>.error x
       |.ok r=>.ok (one 3 t.at_ s [a],r)
     else if aE r 0=[40]then
      match args e f (aX+1) [] r.tail with
      |.error x=>.error x
      |.ok (l,r)=>.ok (one 4 t.at_ s l,r)
     else .ok (one 2 t.at_ s [],r)
where
 args (e:Int):Nat->Nat->List T->List Tok->Rd (List T)
  |0,_,_,_=>.error bs
  |f+1,aX,acc,ts =>
   if aE ts 0=[41]then .ok (acc,ts.tail)
   else match(if acc=[]then .ok ts else a6 e [44] ts)with
    |.error x=>.error x
    |.ok ts=>match rd e f (.expr aX) ts with
     |.error x=>.error x
     |.ok (a,ts)=>args e f aX (acc++[a]) ts
def lV:ai:=[118,97,114]
def fZ:ai:=[105,102]
def iv:ai:=[101,108,115,101]
def gA:ai:=[119,104,105,108,101]
def gJ:ai:=[114,101,116,117,114,110]
def iU:ai:=[105,110,116]
def jq:ai:=[102,117,110,99]
inductive tz where
 |block (aX:Nat)
 |stmt (aX:Nat)
def nJ(ts:List Tok):Nat:=20*ts.length+20
def expr(e:Int)(aX:Nat)(ts:List Tok):Rd T:=rd e (nJ ts) (.expr aX) ts
def inner(e:Int)(aX:Nat)(a b:ai)(ts:List Tok):Rd T :=
 match a6 e a ts with
 |.error x=>.error x
 |.ok ts=>match expr e aX ts with
  |.error x=>.error x
  |.ok (t,ts)=>match a6 e b ts with
   |.error x=>.error x
   |.ok ts=>.ok (t,ts)
def l6(e:Int)(aX:Nat)(ts:List Tok):Rd (ai × T) :=
 match name e ts with
 |.error x=>.error x
 |.ok (s,ts)=>match inner e aX [61] [59] ts with
  |.error x=>.error x
  |.ok (t,ts)=>.ok ((s,t),ts)
def simple(e:Int)(aX:Nat)(ts:List Tok):Rd T :=
 match ts with
 |[]=>match expr e (aX+1) []with
  |.error x=>.error x
  |.ok _=>.error (7,e)
 |t::_ =>
  if t.ab=2/\aE ts 1=[61]then
   match l6 e (aX+1) ts with
   |.error x=>.error x
   |.ok ((s,a),ts)=>.ok (one 7 t.at_ s [a],ts)
  else match expr e (aX+1) ts with
   |.error x=>.error x
   |.ok (a,ts) =>
    if a.n.ab=3/\a.n.at_=t.at_/\aE ts 0=[61]then
     match inner e (aX+1) [61] [59] ts with
     |.error x=>.error x
     |.ok (v,ts)=>.ok (one 8 t.at_ a.n.s (a.au.take 1++[v]),ts)
    else match a6 e [59] ts with
     |.error x=>.error x
     |.ok ts=>.ok (one 12 t.at_ [] [a],ts)
def rs(e:Int):Nat->tz->List Tok->Rd T
 |0,_,_=>.error bs
 |f+1,.block aX,B =>
  if aX>60 then .error (9,place e B)
  else match a6 e [123] B with
   |.error x=>.error x
   |.ok r=>match body e f (aX+1) [] r with
    |.error x=>.error x
    |.ok (l,r)=>.ok (one 14 (place e B) [] l,r)
 |f+1,.stmt aX,B =>
  if aX>60 then .error (9,place e B)
  else
   let at_:=place e B
   if aE B 0=lV then
    match l6 e (aX+1) B.tail with
    |.error x=>.error x
    |.ok ((s,a),B)=>.ok (one 13 at_ s [a],B)
   else if aE B 0=fZ\/aE B 0=gA then
    match inner e (aX+1) [40] [41] B.tail with
    |.error x=>.error x
    |.ok (c,r)=>match rs e f (.block (aX+1)) r with
     |.error x=>.error x
     |.ok (b,r) =>
      if aE B 0=fZ then
       if aE r 0=iv then
        match rs e f (.block (aX+1)) r.tail with
        |.error x=>.error x
        |.ok (t,r)=>.ok (one 9 at_ [] [c,b,t],r)
       else .ok (one 9 at_ [] [c,b],r)
      else .ok (one 10 at_ [] [c,b],r)
   else if aE B 0=gJ then
    match expr e (aX+1) B.tail with
    |.error x=>.error x
    |.ok (a,B)=>match a6 e [59] B with
     |.error x=>.error x
     |.ok B=>.ok (one 11 at_ [] [a],B)
   else simple e aX B
where
 body (e:Int):Nat->Nat->List T->List Tok->Rd (List T)
  |0,_,_,_=>.error bs
  |f+1,aX,acc,ts =>
   if aE ts 0=[125]then .ok (acc,ts.tail)
   else match rs e f (.stmt aX) ts with
    |.error x=>.error x
    |.ok (a,ts)=>body e f aX (acc++[a]) ts
def block(e:Int)(aX:Nat)(ts:List Tok):Rd T:=rs e (nJ ts) (.block aX) ts
structure Ar where
 name:ai
 size:Int
structure eI where
 name:ai
 params:List ai
 tree:T
end Go.Xp
namespace Go.Sp
open Go.Xp
structure RS where
 l:List Tok
 i:Nat
 e:Int
 code:Int
 at_:Int
def RS.ok(p:RS):Prop:=p.i<=p.l.length/\p.l.length<=1099511627776
def RS.place(p:RS):Int:=match p.l[p.i]? with|some t=>t.at_|none=>p.e
def RS.fail(p:RS)(c a:Int):RS:=if p.code=0 then⟨p.l,p.i,p.e,c,a⟩else p
def RS.aE(p:RS)(k:Nat):ai:=if p.code=0 then(match p.l[p.i+k]? with|some t=>dS t|none=>[])else[]
def RS.next(p:RS):RS:=⟨p.l,p.i+1,p.e,p.code,p.at_⟩
def RS.a6(p:RS)(s:ai):RS:=if p.aE 0=s then p.next else p.fail 7 p.place
def RS.name(p:RS):ai × RS :=
 if p.code=0 then match p.l[p.i]? with
  |some t=>if t.ab=2 then(if t.s.length>12 then([],p.fail 8 t.at_)else(t.s,p.next))else([],p.fail 7 p.place)
  |none=>([],p.fail 7 p.place)
 else([],p)
def RS.aX(p:RS)(d:Nat):RS:=if d>60 then p.fail 9 p.place else p
def T.zero:T:=.mk ⟨0,0,0,[],[]⟩ []
inductive J where
 |expr (d:Nat)
 |level (k d:Nat)
 |loop (k d:Nat) (out:T)
 |operand (d:Nat)
 |named (at_:Int) (s:ai) (d:Nat)
mutual
def mE:Nat->J->RS->Option (T × RS)
 |0,_,_=>none
 |f+1,.expr d,p=>mE f (.level 0 d) (p.aX d)
 |f+1,.level k d,p =>
  if k=9 then mE f (.operand (d+1)) p
  else match mE f (.level (k+1) d) p with
   |none=>none
   |some (out,p)=>mE f (.loop k d out) p
 |f+1,.loop k d out,p =>
  if p.code=0/\(levels.getD k []).contains (p.aE 0)=true then
   match p.l[p.i]? with
   |none=>none
   |some t=>match mE f (.level (k+1) d) p.next with
    |none=>none
    |some (b,p)=>mE f (.loop k d (one 6 t.at_ t.s [out,b])) p
  else some (out,p)
 |f+1,.operand d,p =>
  let p:=p.aX d
  if p.code=0 then match p.l[p.i]? with
   |none=>some (T.zero,p.fail 7 p.place)
   |some t =>
    if t.ab=1 then some (.mk ⟨1,t.at_,t.n,[],[]⟩ [],p.next)
    else if t.ab=2 then mE f (.named t.at_ p.name.1 d) p.name.2
    else if t.s=[45]\/t.s=[33]\/t.s=[126]then match mE f (.operand (d+1)) p.next with
     |none=>none
     |some (a,p)=>some (one 5 t.at_ t.s [a],p)
    else if t.s=[40]then match mE f (.expr (d+1)) p.next with
     |none=>none
     |some (a,p)=>some (a,p.a6 [41])
    else some (T.zero,p.fail 7 t.at_)
  else some (T.zero,p.fail 7 p.place)
 |f+1,.named at_ s d,p =>
  if p.aE 0=[91]then match mE f (.expr (d+1)) p.next with
   |none=>none
   |some (a,p)=>some (one 3 at_ s [a],p.a6 [93])
  else if p.aE 0=[40]then match mL f (d+1) p.next with
   |none=>none
   |some (l,p)=>some (one 4 at_ s l,p)
  else some (one 2 at_ s [],p)
def mL:Nat->Nat->RS->Option (List T × RS)
 |0,_,_=>none
 |f+1,d,p=>if p.aE 0=[41]then some ([],p.a6 [41])else match mE f (.expr d) p with
  |none=>none
  |some (a,p)=>qg f d [a] p
def qg:Nat->Nat->List T->RS->Option (List T × RS)
 |0,_,_,_=>none
 |f+1,d,H,p=>if p.aE 0=[44]then match mE f (.expr d) p.next with
   |none=>none
   |some (a,p)=>qg f d (H++[a]) p
  else some (H,p.a6 [41])
end
def RS.ox(p:RS):Bool:=match p.l[p.i]? with|some t=>decide (t.ab=2)|none=>false
def RS.ck(p:RS):Int:=if p.aE 0=fZ then 9 else 10
inductive JS where
 |block (d:Nat)
 |stmt (d:Nat)
 |cond (at_:Int) (d:Nat)
def fe(p:RS):Nat:=100*p.l.length+2000
def mX(d:Nat)(p:RS):Option (T × RS):=mE (fe p) (.expr d) p
mutual
def mS:Nat->JS->RS->Option (T × RS)
 |0,_,_=>none
 |f+1,.block d,p =>
  let p:=p.aX d
  match mB f (d+1) [] (p.a6 [123])with
  |none=>none
  |some (l,q)=>some (one 14 p.place [] l,q.a6 [125])
 |f+1,.stmt d,p =>
  let p:=p.aX d
  let at_:=p.place
  let s:=p.aE 0
  if s=lV then match mX (d+1) ((p.next.name.2).a6 [61])with
   |none=>none
   |some (e,q)=>some (one 13 at_ p.next.name.1 [e],q.a6 [59])
  else if s=fZ\/s=gA then mS f (.cond at_ d) p
  else if s=gJ then match mX (d+1) p.next with
   |none=>none
   |some (e,q)=>some (one 11 at_ [] [e],q.a6 [59])
  else if p.code=0/\p.ox=true/\p.aE 1=[61]then match mX (d+1) (p.name.2.a6 [61])with
   |none=>none
   |some (e,q)=>some (one 7 at_ p.name.1 [e],q.a6 [59])
  else match mX (d+1) p with
   |none=>none
   |some (e,q) =>
    if e.n.ab=3/\e.n.at_=at_/\q.aE 0=[61]then match e.au,mX (d+1) q.next with
     |a::_,some (v,q)=>some (one 8 at_ e.n.s [a,v],q.a6 [59])
     |_,_=>none
    else some (one 12 at_ [] [e],q.a6 [59])
 |f+1,.cond at_ d,p =>
  match mX (d+1) (p.next.a6 [40])with
  |none=>none
  |some (e,q)=>match mS f (.block (d+1)) (q.a6 [41])with
   |none=>none
   |some (b,q) =>
    if p.ck=9/\q.aE 0=iv then match mS f (.block (d+1)) q.next with
     |none=>none
     |some (t,q)=>some (one p.ck at_ [] [e,b,t],q)
    else some (one p.ck at_ [] [e,b],q)
def mB:Nat->Nat->List T->RS->Option (List T × RS)
 |0,_,_,_=>none
 |f+1,d,H,p=>if p.code=0/\¬p.aE 0=[125]then match mS f (.stmt d) p with
   |none=>none
   |some (a,p)=>mB f d (H++[a]) p
  else some (H,p)
end
def dG{p:RS}{k:Nat}{s:ai}(h:p.aE k=s)(q:s≠[]):p.i+k<p.l.length/\p.code=0:=by
 grind[RS.aE,Nat.lt_of_not_le,List.getElem?_eq_none_iff]
def RS.to(p q:RS):Prop:=q.l=p.l/\q.e=p.e/\q.i<=q.l.length/\p.i<=q.i
theorem RS.to.ok{p q:RS}(h:p.to q)(A:p.ok):q.ok:=⟨h.2.2.1,by rw[h.1];exact A.2⟩
def RS.to.trans{p q r:RS}(h:p.to q)(k:q.to r):p.to r:=⟨k.1.trans h.1,k.2.1.trans h.2.1,k.2.2.1,jy h.2.2.2 k.2.2.2⟩
section
variable{p:RS}
theorem jR(A:p.ok):p.to p:=⟨rfl,rfl,A.1,aQ _⟩
theorem mV(A:p.ok)(c a:Int):p.to (p.fail c a):=by
 unfold RS.fail;split
 ·exact⟨rfl,rfl,A.1,aQ _⟩
 ·exact jR A
theorem cU(h:p.i<p.l.length):p.to p.next:=⟨rfl,rfl,h,Nat.le_succ _⟩
theorem bT(A:p.ok){s:ai}(q:s≠[]):p.to (p.a6 s):=by
 unfold RS.a6;split
 ·rename_i h;exact cU (by have:=(dG h q).1;omega)
 grind[mV]
theorem eO(A:p.ok):p.to p.name.2:=by
 unfold RS.name
 grind[mV,List.getElem?_eq_some_iff,cU,jR]
theorem im(A:p.ok)(d:Nat):p.to (p.aX d):=by
 grind[mV,jR,RS.to,RS.aX]
def dY{s:ai}(h:p.aE 0=s)(q:s≠[]):p.to p.next:=cU (by have:=(dG h q).1;omega)
end
def rO:∀(f:Nat),(∀j p t q,p.ok->mE f j p=some (t,q)->p.to q)/\(∀d p l q,p.ok->mL f d p=some (l,q)->p.to q)/\(∀d J p l q,p.ok->qg f d J p=some (l,q)->p.to q)
 |0=>⟨fun j p t q _ h=>by simp[mE]at h,fun d p l q _ h=>by simp[mL]at h,fun d J p l q _ h=>by simp[qg]at h⟩
 |f+1=>by
  have⟨M,w,v⟩:=rO f;refine⟨fun j p t q A h=>?_,fun d p l q A h=>?_,fun d J p l q A h=>?_⟩
  ·cases j with
   |expr d=>rw[mE]at h;exact(im A d).trans (M _ _ _ _ ((im A d).ok A) h)
   |level k d =>
    rw[mE]at h;split at h
    ·grind
    ·split at h
     ·cases h
     ·rename_i out V R;have:=M _ _ _ _ A R;exact zcq
   |loop k d out =>
    rw[mE]at h;split at h
    ·split at h
     ·cases h
     ·rename_i c o;have T:=cU (p:=p) (bR o).1;split at h
      ·cases h
      ·exact zeC
    grind[jR]
   |operand d =>
    rw[mE]at h;have F:=im A d;have H:=F.ok A;refine F.trans ?_;generalize p.aX d=p at *
    try simp only at h
    split at h
    ·split at h
     ·grind[mV]
     ·rename_i c o;have T:=cU (p:=p) (bR o).1;split at h
      ·grind
      ·split at h
       ·exact(eO H).trans (M _ _ _ _ ((eO H).ok H) h)
       ·split at h
        ·split at h
         ·cases h
         ·rename_i a V R
          cases h;exact T.trans (M _ _ _ _ (T.ok H) R)
        ·split at h
         ·split at h
          ·cases h
          ·rename_i a V R;have:=T.trans (M _ _ _ _ (T.ok H) R)
           cases h;exact zbO
         grind[mV]
    grind[mV]
   |named a s d =>
    rw[mE]at h;split at h
    ·rename_i r;have T:=dY r aC;split at h
     ·cases h
     ·rename_i B V R;have:=T.trans (M _ _ _ _ (T.ok A) R)
      cases h;exact this.trans (bT (this.ok A) aC)
    ·split at h
     ·rename_i r;have T:=dY r aC;split at h
      ·cases h
      ·rename_i B V R
       cases h;exact T.trans (w _ _ _ _ (T.ok A) R)
     grind[jR]
  ·rw[mL]at h;split at h
   ·grind[bT]
   ·split at h
    ·cases h
    ·rename_i a V R;have:=M _ _ _ _ A R;exact this.trans (v _ _ _ _ _ (this.ok A) h)
  ·rw[qg]at h;split at h
   ·rename_i r;have T:=dY r aC;split at h
    ·cases h
    ·exact zcR
   grind[bT]
def small(c:UInt8):Bool:=decide ((97:Int)<=(c.toNat:Int))&&decide ((c.toNat:Int)<=122)
def eF(c:UInt8):Bool:=decide ((48:Int)<=(c.toNat:Int))&&decide ((c.toNat:Int)<=57)
def fv(c:UInt8):Bool:=small c ||(decide ((65:Int)<=(c.toNat:Int))&&decide ((c.toNat:Int)<=90)) ||eF c ||((c.toNat:Int)==95)
def fk(c:UInt8):Bool:=((c.toNat:Int)==32) ||((c.toNat:Int)==9) ||((c.toNat:Int)==10) ||((c.toNat:Int)==13)
def cr(s:ai)(at_:Nat)(t:ai):Bool:=decide (at_+t.length<=s.length)&&((s.take (at_+t.length)).drop at_==t)
def il(s:ai):Nat->Nat->Nat
 |0,e=>e
 |f+1,e=>if e<s.length/\cr s e [42,47]=false then il s f (e+1)else e
def skip(s:ai):Nat->Nat->Nat × Int
 |0,at_=>(at_,-1)
 |f+1,at_=>match s[at_]? with
  |none=>(at_,-1)
  |some c =>
   if fk c=true then skip s f (at_+1)
   else if cr s at_ [47,42]=true then
    let e:=il s s.length (at_+2)
    if s.length<=e then(at_,(at_:Int))else skip s f (e+2)
   else(at_,-1)
theorem lP{s t:ai}{a:Nat}(h:cr s a t=true):a+t.length<=s.length:=by
 simp_all[cr,aU,decide_eq_true_eq]
theorem sN(s:ai):∀(f e:Nat),e<=s.length->e<=il s f e/\il s f e<=s.length
 |0,e,h=>⟨aQ _,h⟩
 |f+1,e,h=>by
  rw[il];split
  ·rename_i k;have:=sN s f (e+1) k.1;omega
  omega
theorem rN(s:ai):∀(f e:Nat),e<=s.length->s.length<=f+e->¬(il s f e<s.length/\cr s (il s f e) [42,47]=false)
 |0,e,h,t=>by rw[il];omega
 |f+1,e,h,t=>by
  rw[il];split
  ·rename_i k;exact rN s f (e+1) k.1 aI
  omega
def number(s:ai):Nat->Int->Nat->Int × Nat
 |0,n,a=>(n,a)
 |f+1,n,a=>match s[a]? with
  |none=>(n,a)
  |some c=>if eF c=true then number s f (if n<=2147483647 then n*10+((c.toNat:Int)-48)else n) (a+1)else(n,a)
def run(s:ai)(p:UInt8->Bool):Nat->Nat->Nat
 |0,a=>a
 |f+1,a=>match s[a]? with
  |none=>a
  |some c=>if p c=true then run s p f (a+1)else a
def words:List ai:=[[105,110,116],[118,97,114],[102,117,110,99],[105,102],[101,108,115,101],[119,104,105,108,101],[114,101,116,117,114,110]]
def cx:List ai:=[[124,124],[38,38],[61,61],[33,61],[60,61],[62,61],[60,60],[62,62],[40],[41],[123],[125],[91],[93],[44],[59],[61],[60],[62],[43],[45],[42],[47],[37],[38],[124],[94],[33],[126]]
def gQ(s:ai)(a:Nat):Nat:=run s fv (s.length+1) a
def jx(s:ai)(a:Nat):ai:=(s.take (gQ s a)).drop a
def gD(s:ai)(a:Nat)(c:UInt8):Tok × Nat :=
 if eF c=true then(⟨1,(number s (s.length+1) 0 a).1,[],a⟩,(number s (s.length+1) 0 a).2)
 else if small c=true then(⟨if words.contains (jx s a)=true then 3 else 2,0,jx s a,a⟩,gQ s a)
 else match cx.find? (cr s a)with
  |some x=>(⟨3,0,x,a⟩,a+x.length)
  |none=>(⟨0,0,[],0⟩,a)
def qO(s:ai):Nat->Nat->List Tok->Option (List Tok)
 |0,_,_=>none
 |f+1,a,H=>match s[a]? with
  |none=>some H
  |some c=>qO s f (skip s (s.length+1) (gD s a c).2).1 (H++[(gD s a c).1])
def hE(s:ai):Option (List Tok):=qO s (s.length+2) (skip s (s.length+1) 0).1 []
def word(s:ai):Bool:=s.all fv&&(match s with|[]=>false|c::_=>small c)
def bY(s:ai):Bool:=word s&&decide (s.length<=12)&&!(words.contains s)
theorem sW(s:ai):∀(f:Nat)(n:Int)(a:Nat),a<=s.length->s.length<f+a->(∀c,s[(number s f n a).2]?=some c->eF c=false)/\a<=(number s f n a).2/\(number s f n a).2<=s.length
 |0,n,a,M,v=>by omega
 |f+1,n,a,M,v=>by
  rw[number]
  cases k:s[a]? with
  |none=>grind
  |some c =>
   simp only;have N:=(bR k).1
   by_cases F:eF c=true
   ·rw[ae F];have⟨w,O,S⟩:=sW s f (if n<=2147483647 then n*10+((c.toNat:Int)-48)else n) (a+1) aI aI
    grind
   grind
theorem oX(s:ai)(p:UInt8->Bool):∀(f:Nat)(a:Nat),a<=s.length->s.length<f+a->(∀c,s[run s p f a]?=some c->p c=false)/\a<=run s p f a/\run s p f a<=s.length
 |0,a,M,v=>by omega
 |f+1,a,M,v=>by
  rw[run]
  cases k:s[a]? with
  |none=>grind
  |some c =>
   simp only;have N:=(bR k).1
   by_cases F:p c=true
   ·rw[ae F];have⟨w,O,S⟩:=oX s p f (a+1) aI aI
    grind
   grind
def tq(s:ai):∀(f a:Nat),a<=s.length->a<=(skip s f a).1/\(skip s f a).1<=s.length
 |0,a,h=>⟨aQ _,h⟩
 |f+1,a,h=>by
  rw[skip]
  cases k:s[a]? with
  |none=>grind
  |some c =>
   simp only;have M:=(bR k).1;split
   ·have:=tq s f (a+1) M;omega
   ·split
    ·rename_i v;have v:=lP v;have v:a+2<=s.length:=v;have N:=sN s s.length (a+2) v;have z:=rN s s.length (a+2) v aI;split
     ·omega
     ·rename_i T
      have w:cr s (il s s.length (a+2)) [42,47]=true:=by
       grind
      have w:=lP w;have w:il s s.length (a+2)+2<=s.length:=w;have:=tq s f (il s s.length (a+2)+2) w;omega
    omega
def fT{d:Nat}{p q:RS}{t:T}(A:p.ok)(h:mX d p=some (t,q)):p.to q:=(rO _).1 _ _ _ _ A h
def pK:∀(f:Nat),(∀j p t q,p.ok->(∀a d,j=.cond a d->p.i<p.l.length)->mS f j p=some (t,q)->p.to q)/\(∀d J p l q,p.ok->mB f d J p=some (l,q)->p.to q)
 |0=>⟨fun j p t q _ _ h=>by simp[mS]at h,fun d J p l q _ h=>by simp[mB]at h⟩
 |f+1=>by
  have⟨M,B⟩:=pK f
  have o:∀d(p:RS)t q,p.ok->mS f (.block d) p=some (t,q)->p.to q:=fun d p t q A h=>M _ _ _ _ A (fun a L h=>by cases h) h
  refine⟨fun j p t q A n h=>?_,fun d J p l q A h=>?_⟩
  ·cases j with
   |block d =>
    rw[mS]at h;have F:=im A d;refine F.trans ?_;have H:=F.ok A;generalize p.aX d=p at *
    try simp only at h
    have G:=bT H (s:=[123]) aC;split at h
    ·cases h
    ·rename_i l V R;have:=G.trans (B _ _ _ _ _ (G.ok H) R)
     cases h;exact zbO
   |stmt d =>
    rw[mS]at h;have F:=im A d;refine F.trans ?_;have H:=F.ok A;generalize p.aX d=p at *
    try simp only at h
    split at h
    ·rename_i u;have T:=dY u aC;have O:=T.trans (eO (T.ok H));have w:=O.trans (bT (O.ok H) (s:=[61]) aC);split at h
     ·cases h
     ·rename_i e V R;have:=w.trans (fT (w.ok H) R)
      cases h;exact zbO
    ·split at h
     ·rename_i u;refine M _ _ _ _ H (fun a L _=>?_) h
      rcases u with u|u
      ·exact(dG u aC).1
      ·exact(dG u aC).1
     ·split at h
      ·rename_i u;have T:=dY u aC;split at h
       ·cases h
       ·rename_i e V R;have:=T.trans (fT (T.ok H) R)
        cases h;exact zbO
      ·split at h
       ·have O:=eO H;have w:=O.trans (bT (O.ok H) (s:=[61]) aC);split at h
        ·cases h
        ·rename_i e V R;have:=w.trans (fT (w.ok H) R)
         cases h;exact zbO
       ·split at h
        ·cases h
        ·rename_i e V R;have hx:=fT H R;split at h
         ·rename_i u;have T:=hx.trans (dY u.2.2 aC);split at h
          ·rename_i a r v S m N;have:=T.trans (fT (T.ok H) N)
           cases h;exact zbO
          ·cases h
         ·cases h;exact hx.trans (bT (hx.ok H) aC)
   |cond a d =>
    rw[mS]at h;have T:=cU (n a d rfl);have G:=T.trans (bT (T.ok A) (s:=[40]) aC)
    try simp only at h
    split at h
    ·cases h
    ·rename_i e V R;have hx:=G.trans (fT (G.ok A) R);have z:=hx.trans (bT (hx.ok A) (s:=[41]) aC);split at h
     ·cases h
     ·rename_i b S E;have C:=z.trans (o _ _ _ _ (z.ok A) E);split at h
      ·rename_i u;have k:=C.trans (dY u.2 aC);split at h
       ·cases h
       ·rename_i W c Q
        cases h;exact k.trans (o _ _ _ _ (k.ok A) Q)
      grind
  ·rw[mB]at h;split at h
   ·split at h
    ·cases h
    ·rename_i a V R;have:=M _ _ _ _ A (fun a L h=>by cases h) R;exact this.trans (B _ _ _ _ _ (this.ok A) h)
   grind[jR]
structure Fn where
 name:ai
 params:List ai
 body:Int
structure Src where
 ax:List ai
 aq:List Ar
 ak:List Fn
 ah:List Nd
def nL(k:Int):Bool:=decide ((1:Int)<=k)&&decide (k<=6)
def jo(k:Int):Bool:=decide ((7:Int)<=k)&&decide (k<=13)
def bW(v:Nat):Nat->List T->Bool
 |_,[]=>true
 |i,t::r=>(if i<v then nL t.n.ab else t.n.ab==14)&&bW v (i+1) r
def fX(s:ai):Bool:=levels.any fun l=>l.contains s
mutual
def sub(ah:List Nd):Nat->Nat->Option T
 |0,_=>none
 |f+1,a=>match ah[a]? with
  |none=>none
  |some n=>match po ah f n.au []with
   |none=>none
   |some l=>some (.mk n l)
def po(ah:List Nd):Nat->List Int->List T->Option (List T)
 |_,[],H=>some H
 |0,_::_,_=>none
 |f+1,k::r,H=>if k<0 then none else match sub ah f k.toNat with
  |none=>none
  |some t=>po ah f r (H++[t])
end
mutual
def pj(ah:List Nd):Nat->Nat->Nat->Option Int
 |0,_,_=>none
 |f+1,a,d=>if ah.length<=a\/d>800 then some (-1)else match ah[a]? with
  |none=>none
  |some n=>ph ah f n.au (a+1) d
def ph(ah:List Nd):Nat->List Int->Int->Nat->Option Int
 |_,[],next,_=>some next
 |0,_::_,_,_=>none
 |f+1,k::r,next,d=>if k=next then match pj ah f k.toNat (d+1)with
   |none=>none
   |some e=>if e<0 then some (-1)else ph ah f r e d
  else some (-1)
end
def own(n:Nd)(k:Nat)(c:Nat->Bool)(J:Bool):Bool :=
 if decide (n.at_<0)then false else if n.ab != 1&&n.n != 0 then false
 else if n.ab==1 then decide ((0:Int)<=n.n)&&(decide (n.n<=2147483647)&&(n.s==[]&&(k:Int)==0))
 else if n.ab==2 then bY n.s&&(k:Int)==0
 else if n.ab==3 ||n.ab==7 ||n.ab==13 then bY n.s&&((k:Int)==1&&c 1)
 else if n.ab==4 then bY n.s&&c k
 else if n.ab==5 then(n.s==[45] ||n.s==[33] ||n.s==[126])&&((k:Int)==1&&c 1)
 else if n.ab==6 then fX n.s&&((k:Int)==2&&c 2)
 else if n.ab==8 then bY n.s&&((k:Int)==2&&c 2)
 else if n.ab==9 then n.s==[]&&(((k:Int)==2 ||(k:Int)==3)&&c 1)
 else if n.ab==10 then n.s==[]&&((k:Int)==2&&c 1)
 else if n.ab==11 ||n.ab==12 then n.s==[]&&((k:Int)==1&&c 1)
 else if n.ab==14 then J&&n.s==[]
 else false
def cK(t:T):Bool:=own t.n t.au.length (fun m=>bW m 0 t.au) (t.au.all fun x=>jo x.n.ab)
mutual
def ef:T->Bool
 |.mk n l=>dK l&&cK (.mk n l)
def dK:List T->Bool
 |[]=>true
 |t::r=>ef t&&dK r
end
mutual
def GP:T->Prop
 |.mk n l=>n.s.length<=1099511627776/\l.length<=1099511627776/\xd l
def xd:List T->Prop
 |[]=>True
 |t::r=>GP t/\xd r
end
def GR:∀{l:List T}{t:T},xd l->t∈l->GP t
 |[],_,_,h=>by cases h
 |a::r,t,h,hm=>by
  rw[xd]at h
  rcases List.mem_cons.mp hm with rfl|hm
  ·exact h.1
  ·exact GR h.2 hm
theorem GQ:∀{l:List T}{t:T},xd l->GP t->xd (l++[t])
 |[],t,_,o=>⟨o,trivial⟩
 |a::r,t,h,o=>by
  rw[xd]at h;exact⟨h.1,GQ h.2 o⟩
def Yt{ah:List Nd}(m:∀n∈ah,n.s.length<=1099511627776/\n.au.length<=1099511627776):∀f:Nat,(∀a t,sub ah f a=some t->GP t)/\(∀ks H l,po ah f ks H=some l->H.length+ks.length=l.length/\(xd H->xd l)):=by
 intro f
 induction f with
 |zero =>
  refine⟨fun a t h=>by simp[sub]at h,fun ks H l h=>?_⟩
  cases ks with
  |nil=>grind[po]
  |cons k r=>simp[po]at h
 |succ f O =>
  constructor
  ·intro a t h;rw[sub]at h
   cases T:ah[a]? with
   |none=>grind
   |some n =>
   rw[T]at h;simp only at h
   cases q:po ah f n.au []with
   |none=>grind
   |some l =>
   rw[q]at h;cases h;have u:=O.2 _ _ _ q;have v:=m n (bB T);exact⟨v.1,by grind,u.2 trivial⟩
  ·intro ks H l h
   cases ks with
   |nil=>grind[po]
   |cons k r =>
    rw[po]at h
    by_cases N:k<0
    ·grind
    grind[GQ]
def dy:List ai->Bool:=fun l=>l.all bY
def nZ(a:Ar):Bool:=bY a.name&&!(decide (a.size<0))&&!(decide (2147483647<a.size))
def fN(ah:List Nd):Nat:=2*ah.length+4
def jl(ah:List Nd):List Fn->Int->Option (Option Int)
 |[],next=>some (some next)
 |f::r,next=>match pj ah (fN ah) next.toNat 0 with
  |none=>none
  |some e=>if f.body≠next\/bY f.name=false\/e<0 then some none else if dy f.params=false then some none else match sub ah (fN ah) next.toNat with
   |none=>none
   |some t=>if t.n.ab≠14\/ef t=false then some none else jl ah r e
def oZ(p:Src):Option Bool :=
 if dy p.ax=false then some false else if p.aq.all nZ=false then some false else match jl p.ah p.ak 0 with
  |none=>none
  |some none=>some false
  |some (some next)=>some (next==(p.ah.length:Int)&&decide (next<=800))
end Go.Sp
namespace Go.Xp
section
variable{e:Int}{s:ai}{ts r:List Tok}
theorem Cr(h:a6 e s ts=.ok r):r=ts.tail/\aE ts 0=s:=by
 grind[a6]
def wX(h:a6 e s ts=.ok r):r.length<=ts.length:=by
 rw[(Cr h).1,List.length_tail];omega
def yO(q:s≠[])(h:a6 e s ts=.ok r):r.length<ts.length:=by
 have⟨M,v⟩:=Cr h;rw[M,List.length_tail]
 cases ts with
 |nil=>exact absurd v.symm q
 |cons=>simp
end
def dG{s:ai}{ts:List Tok}(q:s≠[])(h:aE ts 0=s):ts.tail.length<ts.length:=by
 cases ts with
 |nil=>exact absurd h.symm q
 |cons=>simp
theorem rm{e:Int}{s:ai}{ts:List Tok}{x:Er}(h:a6 e s ts=.error x):x≠bs:=by
 unfold a6 at h;grind[bs]
def Gb{e:Int}{s:ai}{ts r:List Tok}(h:name e ts=.ok (s,r)):r.length<ts.length:=by
 unfold name at h;grind
theorem JP{e:Int}{ts:List Tok}{x:Er}(h:name e ts=.error x):x≠bs:=by
 unfold name at h;grind[bs]
def pk:uq->Nat->Nat
 |.operand _,n=>20*n+1
 |.loop _ _ _,n=>20*n+1
 |.level k _,n=>20*n+2+(9-k)
 |.expr _,n=>20*n+12
def sR(H:List T)(n:Nat):Nat:=match H with|[]=>20*n+14|_=>20*n+1
def A0:uq->Prop
 |.level k _=>k<=9
 |.loop k _ _=>k<9
 |_=>True
def good(e:Int)(f:Nat)(j:uq)(ts:List Tok):Prop :=
 A0 j->(∀t r,rd e f j ts=.ok (t,r)->r.length<=ts.length)/\(pk j ts.length<=f->rd e f j ts≠.error bs)
def SP(e:Int)(f aX:Nat)(H:List T)(ts:List Tok):Prop :=
 (∀t r,rd.args e f aX H ts=.ok (t,r)->r.length<=ts.length)/\(sR H ts.length<=f->rd.args e f aX H ts≠.error bs)
theorem er7{a:Int}:((7,a):Er)≠bs:=by intro h;cases h
def Cy(e:Int):∀f,(∀j ts,good e f j ts)/\(∀aX H ts,SP e f aX H ts)
 |0=>by
  refine⟨fun j ts _=>⟨fun t r h=>?_,fun h=>?_⟩,fun aX H ts=>⟨fun t r h=>?_,fun h=>?_⟩⟩
  ·grind[rd]
  ·cases j<;>simp only[pk]at h<;>omega
  ·grind[rd.args]
  ·unfold sR at h;grind
 |f+1=>by
  have⟨O,q⟩:=Cy e f;constructor
  ·intro j ts G
   cases j with
   |expr aX =>
    have⟨M,v⟩:=O (.level 0 (aX+1)) ts (bg _);rw[rd];split
    ·exact zcx
    ·exact⟨M,fun h=>v (by grind[pk])⟩
   |level k aX =>
    have G:k<=9:=G;rw[rd];split
    ·have⟨M,v⟩:=O (.operand aX) ts trivial;exact⟨M,fun h=>v (by grind[pk])⟩
    ·obtain⟨M,v⟩:=O (.level (k+1) aX) ts (by grind[A0]);split
     ·grind[pk]
     ·rename_i out d hx;obtain⟨w,N⟩:=O (.loop k aX out) d (by show k<9;omega);have:=M _ _ hx;exact⟨fun t r h=>jy (w t r h) this,fun h=>N (by grind[pk])⟩
   |loop k aX out =>
    have G:k<9:=G
    cases ts with
    |nil=>rw[rd];simp
    |cons F r0 =>
     rw[rd];split
     ·obtain⟨M,v⟩:=O (.level (k+1) aX) r0 (by grind[A0]);split
      ·grind[pk]
      ·rename_i b r hx;have⟨w,N⟩:=O (.loop k aX (one 6 F.at_ F.s [out,b])) r G;have:=M _ _ hx;exact⟨fun t r h=>by grind,fun h=>N (by grind[pk])⟩
     simp
   |operand aX =>
    cases ts with
    |nil=>rw[rd];split<;>exact⟨fun t r h=>zff,fun _ h=>zff⟩
    |cons F r0 =>
    rw[rd];split
    ·exact zcx
    split
    ·split
     ·have⟨M,v⟩:=O (.operand (aX+1)) r0 trivial;split
      ·grind[pk]
      grind
     split
     ·have⟨M,v⟩:=O (.expr (aX+1)) r0 trivial;split
      ·grind[pk]
      ·rename_i a r hx;have:=M _ _ hx;split
       ·grind[rm]
       ·rename_i l J;have:=wX J
        grind
     ·exact zcx
    split
    ·simp
    split
    ·grind[JP]
    ·rename_i s r V;have T:=Gb V;simp only[length_cons]at T
     have Q:r.tail.length<=r.length:=by simp
     split
     ·have⟨M,v⟩:=O (.expr (aX+1)) r.tail trivial;split
      ·grind[pk]
      ·rename_i a l hx;have:=M _ _ hx;split
       ·grind[rm]
       ·rename_i m J;have:=wX J
        grind
     split
     ·have⟨M,v⟩:=q (aX+1) [] r.tail;split
      ·rename_i x hx;exact⟨fun t r h=>zff,fun h u=>v (by grind[pk,length_cons,sR]) (hx.trans ze3)⟩
      grind
     grind
  ·intro aX H ts;unfold SP;rw[rd.args];split
   ·simp
   ·by_cases c:H=[]
    ·subst c;simp only[if_true];have⟨M,v⟩:=O (.expr aX) ts trivial;split
     ·rename_i x hx;exact⟨fun t r h=>zff,fun h u=>v (by grind[sR,pk]) (hx.trans ze3)⟩
     ·rename_i a r hx;have:=M _ _ hx;have⟨w,N⟩:=q aX ([]++[a]) r;exact⟨fun t r h=>by grind,fun h=>N (by grind[sR])⟩
    ·rw[D c]
     have B:∀n,sR H n=20*n+1:=by simp[sR]
     split
     ·grind[rm]
     ·rename_i d J;have Q:=yO aC J;have⟨M,v⟩:=O (.expr aX) d trivial;split
      ·grind[pk]
      ·rename_i a r hx;have:=M _ _ hx;have⟨w,N⟩:=q aX (H++[a]) r
       have W:sR (H++[a]) r.length=20*r.length+1:=by
        simp[sR]
       grind
section
variable{e:Int}{f:Nat}{j:uq}{ts:List Tok}
def Yb{t:T}{r:List Tok}(G:A0 j)(h:rd e f j ts=.ok (t,r)):r.length<=ts.length:=((Cy e f).1 j ts G).1 t r h
def yS(G:A0 j)(h:pk j ts.length<=f):rd e f j ts≠.error bs:=((Cy e f).1 j ts G).2 h
end
section
variable{e:Int}{aX:Nat}
theorem Di{ts:List Tok}:expr e aX ts≠.error bs:=yS (j:=.expr aX) trivial (by simp[pk,nJ])
def zP{ts:List Tok}{t:T}{r:List Tok}(h:expr e aX ts=.ok (t,r)):r.length<=ts.length:=Yb (j:=.expr aX) trivial h
def zZ{a b:ai}{ts r:List Tok}{t:T}(ha:a≠[])(h:inner e aX a b ts=.ok (t,r)):r.length<ts.length:=by
 unfold inner at h;split at h
 ·cases h
 ·rename_i u M;split at h
  ·cases h
  ·rename_i a1 l v;split at h
   ·cases h
   ·rename_i N w;cases h;have:=yO ha M;have:=zP v;have:=wX w;omega
theorem zY{a b:ai}{ts:List Tok}{x:Er}(h:inner e aX a b ts=.error x):x≠bs:=by
 grind[inner,rm,Di]
def GH{ts r:List Tok}{t:ai × T}(h:l6 e aX ts=.ok (t,r)):r.length<ts.length:=by
 unfold l6 at h;split at h
 ·cases h
 ·rename_i s u M;split at h
  ·cases h
  ·rename_i a l v;cases h;have:=Gb M;have:=zZ aC v;omega
theorem GG{ts:List Tok}{x:Er}(h:l6 e aX ts=.error x):x≠bs:=by
 grind[l6,JP,zY]
theorem Fp{ts:List Tok}{x:Er}(h:expr e aX ts=.error x):x≠bs:=fun s=>Di (h.trans (by rw[s]))
theorem Pl{ts r:List Tok}{t:T}(h:simple e aX ts=.ok (t,r)):r.length<ts.length:=by
 unfold simple at h;split at h
 ·grind
 ·rename_i F r0;split at h
  ·split at h
   ·cases h
   ·rename_i s a u M;cases h;exact GH M
  ·split at h
   ·cases h
   ·rename_i a u M;have:=zP M;split at h
    ·split at h
     ·cases h
     ·rename_i v l w;cases h;have:=zZ aC w;omega
    ·split at h
     ·cases h
     ·rename_i l w;cases h;have:=yO aC w;omega
theorem Pj{ts:List Tok}{x:Er}(h:simple e aX ts=.error x):x≠bs:=by
 unfold simple at h
 grind[Fp,er7,GG,zY,rm]
end
def Lj(e:Int)(f:Nat)(j:tz)(ts:List Tok):Prop :=
 (∀t r,rs e f j ts=.ok (t,r)->r.length<ts.length)/\(3*ts.length+1<=f->rs e f j ts≠.error bs)
def Li(e:Int)(f aX:Nat)(H:List T)(ts:List Tok):Prop :=
 (∀t r,rs.body e f aX H ts=.ok (t,r)->r.length<ts.length)/\(3*ts.length+2<=f->rs.body e f aX H ts≠.error bs)
def J6(e:Int):∀f,(∀j ts,Lj e f j ts)/\(∀aX H ts,Li e f aX H ts)
 |0=>by
  grind[rs,rs.body,Lj,Li]
 |f+1=>by
  have⟨O,q⟩:=J6 e f;constructor
  ·intro j ts;unfold Lj
   cases j with
   |block aX =>
    rw[rs];split
    ·simp[Rd,Er,place,bs]
    ·split
     ·grind[rm]
     ·rename_i r0 G;have t:=yO aC G;have⟨M,v⟩:=q (aX+1) [] r0
      grind
   |stmt aX =>
    rw[rs];split
    ·simp[Rd,Er,place,bs]
    ·simp only;split
     ·rename_i T;have t:=dG aC T;split
      ·grind[GG]
      ·rename_i s a u hx;have:=GH hx
       grind
     split
     ·rename_i T
      have t:ts.tail.length<ts.length:=by
       rcases T with T|T<;>exact dG aC T
      split
      ·grind[zY]
      ·rename_i c W hx;have k:=zZ aC hx;have⟨M,v⟩:=O (.block (aX+1)) W;split
       ·grind
       ·rename_i b R J;have z:=M _ _ J;split
        ·split
         ·have⟨w,N⟩:=O (.block (aX+1)) R.tail
          grind
         grind
        grind
     split
     ·rename_i T;have t:=dG aC T;split
      ·grind[Fp]
      ·rename_i a W hx;have:=zP hx;split
       ·grind[rm]
       ·rename_i R G;have:=wX G
        grind
     grind[Pl,Pj]
  ·intro aX H ts;unfold Li;rw[rs.body];split
   ·rename_i T;have t:=dG aC T
    grind
   ·have⟨M,v⟩:=O (.stmt aX) ts;split
    ·grind
    ·rename_i a r hx;have:=M _ _ hx;have⟨w,N⟩:=q aX (H++[a]) r
     grind
def wy{e:Int}{aX:Nat}{ts:List Tok}:block e aX ts≠.error bs:=((J6 e _).1 (.block aX) ts).2 (by grind[nJ])
end Go.Xp
namespace Go.Sp
open Go.Xp
structure On(p:RS)(ts:List Tok):Prop where
 code:p.code=0
 le:p.i<=p.l.length
 rest:p.l.drop p.i=ts
 kinds:∀t∈p.l,t.ab=1\/t.ab=2\/t.ab=3
def cv(p q:RS):Except Er (List Tok)->Prop
 |.ok r=>On q r/\q.l=p.l/\q.e=p.e
 |.error x=>q.code=x.1/\x.1≠0/\q.at_=x.2/\q.l=p.l/\q.e=p.e
def ja{S:Type}(p q:RS)(t:S):Rd S->Prop
 |.ok (b,r)=>t=b/\cv p q (.ok r)
 |.error x=>cv p q (.error x)
section
variable{p q q':RS}{ts r:List Tok}{x:Er}
theorem cv.err(h:cv p q (.error x)):q.code≠0:=by rw[h.1];exact h.2.1
theorem cv.tr{y:Except Er (List Tok)}(h:cv p q (.ok r))(k:cv q q' y):cv p q' y:=by
 have⟨_,M,v⟩:=h
 cases y with
 |ok r=>grind[cv]
 |error x=>grind[cv]
def ja.tr{S:Type}{t:S}{y:Rd S}(h:cv p q (.ok r))(k:ja q q' t y):ja p q' t y:=by
 cases y with
 |ok r=>have⟨b,r⟩:=r;exact⟨k.1,h.tr k.2⟩
 |error x=>exact h.tr (y:=.error x) k
def On.self(h:On p ts):cv p p (.ok ts):=⟨h,rfl,rfl⟩
def On.at(h:On p ts)(k:Nat):p.l[p.i+k]?=ts[k]?:=by rw[<-h.rest,List.getElem?_drop]
theorem On.aE(h:On p ts)(k:Nat):p.aE k=Go.Xp.aE ts k:=by
 unfold RS.aE Go.Xp.aE;rw[ae h.code,h.at]
 try rfl
theorem On.place(h:On p ts):p.place=Go.Xp.place p.e ts:=by
 have s:=h.at 0;unfold RS.place;rw[Nat.add_zero]at s;rw[s]
 cases ts with
 |nil=>rfl
 |cons t r=>rfl
theorem On.next{t:Tok}(h:On p (t::r)):cv p p.next (.ok r):=by
 have M:p.i<p.l.length:=by
  have:=congrArg List.length h.rest
  grind
 refine⟨⟨h.code,M,?_,h.kinds⟩,rfl,rfl⟩;show p.l.drop (p.i+1)=r;rw[<-List.tail_drop,h.rest];rfl
theorem On.fail(h:On p ts)(c a:Int)(k:c≠0):cv p (p.fail c a) (.error (c,a)):=by
 unfold RS.fail;rw[ae h.code];exact⟨rfl,k,rfl,rfl,rfl⟩
theorem tL(h:p.code≠0)(c a:Int):p.fail c a=p:=by grind[RS.fail]
theorem mj(h:p.code≠0)(k:Nat):p.aE k=[]:=by grind[RS.aE]
theorem iG(h:p.code≠0){s:ai}(t:s≠[]):p.a6 s=p:=by
 unfold RS.a6
 simp_all[mj,D,tL]
theorem Ai(h:p.code≠0):p.name=([],p):=by grind[RS.name]
theorem re(h:p.code≠0)(d:Nat):p.aX d=p:=by grind[tL,RS.aX]
theorem ez{s:ai}(u:s≠[])(h:Go.Xp.aE ts 0=s):∃t,ts=t::ts.tail/\t.ab=3/\t.s=s:=by
 cases ts with
 |nil=>exact absurd h.symm u
 |cons t r =>
  grind[Go.Xp.aE,getElem?_cons_zero,dS]
theorem On.a6(h:On p ts){s:ai}(v:s≠[]):cv p (p.a6 s) (Go.Xp.a6 p.e s ts):=by
 unfold RS.a6 Go.Xp.a6;rw[h.aE]
 by_cases u:Go.Xp.aE ts 0=s
 ·rw[ae u,ae u];have⟨t,o,_⟩:=ez v u;rw[o]at h
  exact h.next
 ·rw[D u,D u,h.place];exact h.fail 7 _ aC
theorem On.name(h:On p ts):ja p p.name.2 p.name.1 (Go.Xp.name p.e ts)\/∃x,Go.Xp.name p.e ts=.error x/\cv p p.name.2 (.error x):=by
 have s:=h.at 0;rw[Nat.add_zero]at s;unfold RS.name;rw[ae h.code,s]
 cases ts with
 |nil=>exact .inr ⟨_,rfl,by rw[h.place];exact h.fail 7 _ aC⟩
 |cons t r =>
  simp only[getElem?_cons_zero,Go.Xp.name];split
  ·split
   ·exact .inr ⟨_,rfl,h.fail 8 _ aC⟩
   ·exact .inl ⟨rfl,h.next⟩
  ·refine .inr ⟨_,rfl,?_⟩;have:p.place=t.at_:=h.place;rw[this];exact h.fail 7 _ aC
end
theorem AZ{p:RS}(h:p.code≠0):(∀g d,1<=g->mE g (.operand d) p=some (T.zero,p))/\(∀g k d out,1<=g->mE g (.loop k d out) p=some (out,p))/\(∀n g k d,k+n=9->n+2<=g->mE g (.level k d) p=some (T.zero,p)):=by
 have M:∀g d,1<=g->mE g (.operand d) p=some (T.zero,p):=by
  intro g d B
  cases g with
  |zero=>omega
  |succ g=>rw[mE];grind[re,tL]
 have v:∀g k d out,1<=g->mE g (.loop k d out) p=some (out,p):=by
  intro g k d out B
  cases g with
  |zero=>omega
  |succ g=>grind[mE]
 refine⟨M,v,fun n=>?_⟩
 induction n with
 |zero =>
  intro g k d l B
  cases g with
  |zero=>omega
  |succ g=>grind[mE,T.zero]
 |succ n O =>
  intro g k d l B
  cases g with
  |zero=>omega
  |succ g =>
   grind[mE,T.zero]
def XJ{p:RS}(h:p.code≠0){g d:Nat}(hg:12<=g):mE g (.expr d) p=some (T.zero,p):=by
 cases g with
 |zero=>omega
 |succ g=>grind[re,AZ,mE,T.zero]
def KF(f:Nat):Nat:=2*f+20
structure JE(f:Nat):Prop where
 expr:∀d ts p,On p ts->rd p.e f (.expr d) ts≠.error bs->∃t q,(∀g,KF f<=g->mE g (.expr d) p=some (t,q))/\ja p q t (rd p.e f (.expr d) ts)
 level:∀k d ts p,k<=9->On p ts->rd p.e f (.level k (d+1)) ts≠.error bs->∃t q,(∀g,KF f<=g->mE g (.level k d) p=some (t,q))/\ja p q t (rd p.e f (.level k (d+1)) ts)
 loop:∀k d out ts p,k<9->On p ts->rd p.e f (.loop k (d+1) out) ts≠.error bs->∃t q,(∀g,KF f<=g->mE g (.loop k d out) p=some (t,q))/\ja p q t (rd p.e f (.loop k (d+1) out) ts)
 operand:∀d ts p,On p ts->rd p.e f (.operand d) ts≠.error bs->∃t q,(∀g,KF f<=g->mE g (.operand d) p=some (t,q))/\ja p q t (rd p.e f (.operand d) ts)
 args:∀d acc ts p,acc≠[]->On p ts->rd.args p.e f d acc ts≠.error bs->∃t q,(∀g,KF f<=g->qg g d acc p=some (t,q))/\ja p q t (rd.args p.e f d acc ts)
 args0:∀d ts p,On p ts->rd.args p.e f d [] ts≠.error bs->∃t q,(∀g,KF f<=g->mL g d p=some (t,q))/\ja p q t (rd.args p.e f d [] ts)
theorem Bb:∀k,(levels.getD k []).contains []=false:=by
 intro k
 have h:∀l∈levels,l.contains ([]:ai)=false:=by decide
 grind
theorem up{f g:Nat}(h:KF (f+1)<=g):∃W,g=W+1/\KF f+1<=W:=⟨g-1,by grind[KF],by grind[KF]⟩
def je(f:Nat):JE f:=by
 induction f with
 |zero =>
  refine⟨fun d ts p _ h=>absurd ?_ h,fun k d ts p _ _ h=>absurd ?_ h,fun k d out ts p _ _ h=>absurd ?_ h,fun d ts p _ h=>absurd ?_ h,fun d L ts p _ _ h=>absurd ?_ h,fun d ts p _ h=>absurd ?_ h⟩<;>simp[rd,rd.args]
 |succ f C =>
  refine⟨fun d ts p m h=>?_,fun k d ts p hk m h=>?_,fun k d out ts p hk m h=>?_,fun d ts p m h=>?_,fun d L ts p aaK m h=>?_,fun d ts p m h=>?_⟩
  ·rw[rd]at h |-
   by_cases hd:d>60
   ·rw[ae hd]at h |-;have W:=m.fail 9 p.place aC;refine⟨T.zero,p.fail 9 p.place,fun g c=>?_,by rw[<-m.place];exact W⟩;obtain⟨g,rfl,c⟩:=up c;rw[mE];unfold RS.aX;rw[ae hd];exact(AZ W.err).2.2 9 g 0 d rfl (by grind[KF])
   ·rw[D hd]at h |-;have⟨t,q,E,j⟩:=C.level 0 d ts p aI m h;refine⟨t,q,fun g c=>?_,j⟩;obtain⟨g,rfl,c⟩:=up c;rw[mE];grind[mE,RS.aX]
  ·rw[rd]at h |-
   by_cases h9:k=9
   ·rw[ae h9]at h |-;have⟨t,q,E,j⟩:=C.operand (d+1) ts p m h;refine⟨t,q,fun g c=>?_,j⟩;obtain⟨g,rfl,c⟩:=up c
    grind[mE]
   ·rw[D h9]at h |-
    cases o:rd p.e f (.level (k+1) (d+1)) ts with
    |error x =>
     rw[o]at h
     have hx:x≠bs:=fun B=>h zfx
     have⟨t,q,E,j⟩:=C.level (k+1) d ts p aI m ze3;rw[o]at j;refine⟨t,q,fun g c=>?_,j⟩;obtain⟨g,rfl,c⟩:=up c;rw[mE,D h9,E g aI];exact(AZ (cv.err j)).2.1 g _ _ _ aI
    |ok r =>
     have⟨t',r⟩:=r;rw[o]at h;simp only at h |-;have⟨t,q,E,j⟩:=C.level (k+1) d ts p aI m ze3;rw[o]at j;obtain⟨rfl,j⟩:=j;rw[<-j.2.2]at h |-;have⟨t3,q3,h3,h4⟩:=C.loop k d t r q aI j.1 h;refine⟨t3,q3,fun g c=>?_,ja.tr j h4⟩;obtain⟨g,rfl,c⟩:=up c
     grind[mE]
  ·cases ts with
   |nil =>
    rw[rd];refine⟨out,p,fun g c=>?_,rfl,m.self⟩;obtain⟨g,rfl,c⟩:=up c;rw[mE,D];rw[m.aE];rintro⟨_,B⟩
    grind[aE,Bb]
   |cons t r =>
    rw[rd]at h |-;have hs:p.aE 0=dS t:=m.aE 0
    by_cases hc:t.ab=3/\t.s∈levels.getD k []
    ·rw[ae hc]at h |-
     have w:=m.next
     have z:p.l[p.i]?=some t:=m.at 0;have Zh:p.code=0/\(levels.getD k []).contains (p.aE 0)=true:=⟨m.code,by simp_all[dS,ae]⟩;rw[show p.e=p.next.e from rfl]at h |-
     cases o:rd p.next.e f (.level (k+1) (d+1)) r with
     |error x =>
      rw[o]at h
      have hx:x≠bs:=fun B=>h zfx
      have⟨b,q,E,j⟩:=C.level (k+1) d r p.next aI w.1 ze3
      rw[o]at j;refine⟨one 6 t.at_ t.s [out,b],q,fun g c=>?_,w.tr (y:=.error x) j⟩;obtain⟨g,rfl,c⟩:=up c;rw[mE,ae Zh,z];simp only;rw[E g aI];exact(AZ (cv.err j)).2.1 g _ _ _ aI
     |ok x =>
      have⟨b',V⟩:=x;rw[o]at h;simp only at h |-
      have⟨b,q,E,j⟩:=C.level (k+1) d r p.next aI w.1 ze3
      rw[o]at j;obtain⟨rfl,j⟩:=j;rw[<-j.2.2]at h |-;have⟨t3,q3,h3,h4⟩:=C.loop k d (one 6 t.at_ t.s [out,b]) V q hk j.1 h;refine⟨t3,q3,fun g c=>?_,ja.tr (w.tr j) h4⟩;obtain⟨g,rfl,c⟩:=up c
      grind[mE]
    ·rw[D hc];refine⟨out,p,fun g c=>?_,rfl,m.self⟩;obtain⟨g,rfl,c⟩:=up c;rw[mE,D]
     grind[dS,Bb]
  ·rw[rd.eq_def]at h |-;simp only at h |-
   by_cases hd:d>60
   ·rw[ae hd]at h |-;have W:=m.fail 9 p.place aC;refine⟨T.zero,p.fail 9 p.place,fun g c=>?_,by rw[<-m.place];exact W⟩;obtain⟨g,rfl,c⟩:=up c;rw[mE];unfold RS.aX;rw[ae hd];simp[W.err,tL W.err]
   ·rw[D hd]at h |-
    have F:p.aX d=p:=by grind[RS.aX]
    cases ts with
    |nil =>
     simp only;have B:p.l[p.i]?=none:=m.at 0;refine⟨T.zero,p.fail 7 p.place,fun g c=>?_,?_⟩
     ·grind[up,mE,T.zero,RS.fail,RS.place]
     ·rw[m.place];exact m.fail 7 _ aC
    |cons t r =>
     simp only at h |-;have z:p.l[p.i]?=some t:=m.at 0
     have w:=m.next
     by_cases h3:t.ab=3
     ·rw[ae h3]at h |-
      have M:¬t.ab=1:=by omega
      have N:¬t.ab=2:=by omega
      by_cases hu:t.s=[45]\/t.s=[33]\/t.s=[126]
      ·rw[ae hu]at h |-;rw[show p.e=p.next.e from rfl]at h |-
       cases o:rd p.next.e f (.operand (d+1)) r with
       |error x =>
        rw[o]at h
        have hx:x≠bs:=fun B=>h zfx
        have⟨b,q,E,j⟩:=C.operand (d+1) r p.next w.1 ze3
        rw[o]at j;refine⟨one 5 t.at_ t.s [b],q,fun g c=>?_,w.tr (y:=.error x) j⟩;obtain⟨g,rfl,c⟩:=up c;rw[mE];simp only[F,m.code,z,if_true,D M,D N,ae hu]
        grind
       |ok x =>
        have⟨b',V⟩:=x;rw[o]at h;simp only at h |-
        have⟨b,q,E,j⟩:=C.operand (d+1) r p.next w.1 ze3
        rw[o]at j;obtain⟨rfl,j⟩:=j;refine⟨one 5 t.at_ t.s [b],q,fun g c=>?_,rfl,w.tr j⟩;obtain⟨g,rfl,c⟩:=up c;rw[mE];simp only[F,m.code,z,if_true,D M,D N,ae hu]
        grind
      ·rw[D hu]at h |-
       by_cases A:t.s=[40]
       ·rw[ae A]at h |-;rw[show p.e=p.next.e from rfl]at h |-
        cases o:rd p.next.e f (.expr (d+1)) r with
        |error x =>
         rw[o]at h
         have hx:x≠bs:=fun B=>h zfx
         have⟨b,q,E,j⟩:=C.expr (d+1) r p.next w.1 ze3
         rw[o]at j;refine⟨b,q.a6 [41],fun g c=>?_,?_⟩
         ·obtain⟨g,rfl,c⟩:=up c;rw[mE];simp only[F,m.code,z,if_true,D M,D N,D hu,ae A]
          grind
         ·rw[iG (cv.err j) aC];exact w.tr (y:=.error x) j
        |ok x =>
         have⟨b',V⟩:=x;rw[o]at h;simp only at h |-
         have⟨b,q,E,j⟩:=C.expr (d+1) r p.next w.1 ze3
         rw[o]at j;obtain⟨rfl,j⟩:=j;have G:=j.1.a6 (s:=[41]) aC;have u:=(w.tr j).tr G;rw[j.2.2]at u;refine⟨b,q.a6 [41],fun g c=>?_,?_⟩
         ·obtain⟨g,rfl,c⟩:=up c;rw[mE];simp only[F,m.code,z,if_true,D M,D N,D hu,ae A]
          grind
         ·cases O:a6 p.next.e [41] V with
          |error x=>rw[O]at u;exact u
          |ok r2=>rw[O]at u;exact⟨rfl,u⟩
       ·rw[D A]at h |-;refine⟨T.zero,p.fail 7 t.at_,fun g c=>?_,m.fail 7 _ aC⟩;obtain⟨g,rfl,c⟩:=up c;rw[mE];simp only[F,m.code,z,if_true,D M,D N,D hu,D A]
     ·rw[D h3]at h |-
      by_cases E:t.ab=1
      ·rw[ae E];refine⟨_,p.next,fun g c=>?_,rfl,w⟩;obtain⟨g,rfl,c⟩:=up c;rw[mE];simp only[F,m.code,z,if_true,ae E]
      ·rw[D E]at h |-
       by_cases j:t.ab=2
       ·by_cases H:t.s.length>12
        ·have Q:name p.e (t::r)=.error (8,t.at_):=by simp[name,j,H]
         rw[Q]at h |-;have W:=m.fail 8 t.at_ aC;refine⟨one 2 t.at_ [] [],p.fail 8 t.at_,fun g c=>?_,W⟩;obtain⟨g,rfl,c⟩:=up c
         have Xc:p.name=([],p.fail 8 t.at_):=by unfold RS.name;simp[m.code,z,j,H]
         rw[mE];simp only[F,m.code,z,if_true,D E,ae j,Xc];obtain⟨g,rfl⟩:∃g',g=g'+1:=⟨g-1,by omega⟩;rw[mE,D (by rw[mj W.err];decide),D (by rw[mj W.err];decide)]
        ·have Q:name p.e (t::r)=.ok (t.s,r):=by simp[name,j,H]
         have Xc:p.name=(t.s,p.next):=by unfold RS.name;simp[m.code,z,j,H]
         rw[Q]at h |-;simp only at h |-
         have DC:p.next.aE 0=aE r 0:=w.1.aE 0
         have S:∀(t':T)(q:RS),(∀g,KF f<=g->mE (g+1) (.named t.at_ t.s d) p.next=some (t',q))->∀g,KF (f+1)<=g->mE g (.operand d) p=some (t',q):=by
          intro t' q hk g c;obtain⟨g,rfl,c⟩:=up c;rw[mE];simp only[F,m.code,z,if_true,D E,ae j,Xc];obtain⟨g,rfl⟩:∃g',g=g'+1:=⟨g-1,by omega⟩
          grind
         by_cases A:aE r 0=[91]
         ·rw[ae A]at h |-;have⟨tb,R,_⟩:=ez aC A;have v:=w.1;rw[R]at v
          have v:=w.tr v.next
          rw[show p.e=p.next.next.e from rfl]at h |-
          cases o:rd p.next.next.e f (.expr (d+1)) r.tail with
          |error x =>
           rw[o]at h
           have hx:x≠bs:=fun B=>h zfx
           have⟨b,q,J,n⟩:=C.expr (d+1) r.tail p.next.next v.1 ze3
           rw[o]at n;refine⟨one 3 t.at_ t.s [b],q.a6 [93],S _ _ fun g c=>?_,?_⟩
           ·rw[mE,ae ze3,J g c]
           ·rw[iG (cv.err n) aC];exact v.tr (y:=.error x) n
          |ok x =>
           have⟨b',V⟩:=x;rw[o]at h;simp only at h |-
           have⟨b,q,J,n⟩:=C.expr (d+1) r.tail p.next.next v.1 ze3
           rw[o]at n;obtain⟨rfl,n⟩:=n;have G:=n.1.a6 (s:=[93]) aC;have u:=(v.tr n).tr G;rw[n.2.2]at u;refine⟨one 3 t.at_ t.s [b],q.a6 [93],S _ _ fun g c=>?_,?_⟩
           ·rw[mE,ae ze3,J g c]
           ·cases O:a6 p.next.next.e [93] V with
            |error x=>rw[O]at u;exact u
            |ok r2=>rw[O]at u;exact⟨rfl,u⟩
         ·rw[D A]at h |-
          by_cases hc:aE r 0=[40]
          ·rw[ae hc]at h |-;have⟨tb,R,_⟩:=ez aC hc;have v:=w.1;rw[R]at v
           have v:=w.tr v.next
           rw[show p.e=p.next.next.e from rfl]at h |-
           cases o:rd.args p.next.next.e f (d+1) [] r.tail with
           |error x =>
            rw[o]at h
            have hx:x≠bs:=fun B=>h zfx
            have⟨b,q,J,n⟩:=C.args0 (d+1) r.tail p.next.next v.1 ze3
            rw[o]at n;refine⟨one 4 t.at_ t.s b,q,S _ _ fun g c=>?_,v.tr (y:=.error x) n⟩;rw[mE,D ze3,ae ze3,J g c]
           |ok x =>
            have⟨b',V⟩:=x;rw[o]at h
            have⟨b,q,J,n⟩:=C.args0 (d+1) r.tail p.next.next v.1 ze3
            rw[o]at n;obtain⟨rfl,n⟩:=n;refine⟨one 4 t.at_ t.s b,q,S _ _ fun g c=>?_,rfl,v.tr n⟩;rw[mE,D ze3,ae ze3,J g c]
          ·rw[D hc]at h |-;refine⟨one 2 t.at_ t.s [],p.next,S _ _ fun g c=>?_,rfl,w⟩;rw[mE,D ze3,D ze3]
       ·have Q:name p.e (t::r)=.error (7,t.at_):=by simp[name,j]
        rw[Q]at h |-;have:=m.kinds t (bB z);omega
  ·rw[rd.args]at h |-;have DC:p.aE 0=aE ts 0:=m.aE 0
   by_cases A:aE ts 0=[41]
   ·rw[ae A];have G:=m.a6 (s:=[41]) aC;unfold Go.Xp.a6 at G;rw[ae A]at G;refine⟨L,p.a6 [41],fun g c=>?_,rfl,G⟩;obtain⟨g,rfl,c⟩:=up c
    grind[qg,RS.a6]
   ·rw[D A,D aaK]at h |-
    by_cases hc:aE ts 0=[44]
    ·have Dz:Go.Xp.a6 p.e [44] ts=.ok ts.tail:=by grind[a6]
     rw[Dz]at h |-;simp only at h |-;have⟨tb,R,_⟩:=ez aC hc;have w:=m;rw[R]at w
     have w:=w.next
     rw[show p.e=p.next.e from rfl]at h |-
     cases o:rd p.next.e f (.expr d) ts.tail with
     |error x =>
      rw[o]at h
      have hx:x≠bs:=fun B=>h zfx
      have⟨b,q,J,n⟩:=C.expr d ts.tail p.next w.1 ze3
      rw[o]at n;refine⟨L++[b],q,fun g c=>?_,w.tr (y:=.error x) n⟩;obtain⟨g,rfl,c⟩:=up c;rw[qg,ae ze3,J g aI];exact zb9
     |ok x =>
      have⟨b',V⟩:=x;rw[o]at h;simp only at h |-
      have⟨b,q,J,n⟩:=C.expr d ts.tail p.next w.1 ze3
      rw[o]at n;obtain⟨rfl,n⟩:=n;rw[<-n.2.2]at h |-;have⟨t3,q3,h3,h4⟩:=C.args d (L++[b]) V q ze6 n.1 h;refine⟨t3,q3,fun g c=>?_,ja.tr (w.tr n) h4⟩;obtain⟨g,rfl,c⟩:=up c
      grind[qg]
    ·have Dz:Go.Xp.a6 p.e [44] ts=.error (7,place p.e ts):=by grind[a6]
     rw[Dz];have G:=m.a6 (s:=[41]) aC;unfold Go.Xp.a6 at G;rw[D A]at G;refine⟨L,p.a6 [41],fun g c=>?_,G⟩;obtain⟨g,rfl,c⟩:=up c
     grind[qg,RS.a6]
  ·rw[rd.args]at h |-;have DC:p.aE 0=aE ts 0:=m.aE 0
   by_cases A:aE ts 0=[41]
   ·rw[ae A];have G:=m.a6 (s:=[41]) aC;unfold Go.Xp.a6 at G;rw[ae A]at G;refine⟨[],p.a6 [41],fun g c=>?_,rfl,G⟩;obtain⟨g,rfl,c⟩:=up c
    grind[mL,RS.a6]
   ·rw[D A,ae rfl]at h |-;simp only at h |-
    cases o:rd p.e f (.expr d) ts with
    |error x =>
     rw[o]at h
     have hx:x≠bs:=fun B=>h zfx
     have⟨b,q,J,n⟩:=C.expr d ts p m ze3;rw[o]at n;refine⟨[b],q,fun g c=>?_,n⟩;obtain⟨g,rfl,c⟩:=up c;rw[mL,D ze3,J g aI];exact zb9
    |ok x =>
     have⟨b',V⟩:=x;rw[o]at h;simp only at h |-;have⟨b,q,J,n⟩:=C.expr d ts p m ze3;rw[o]at n;obtain⟨rfl,n⟩:=n;rw[<-n.2.2]at h |-;have⟨t3,q3,h3,h4⟩:=C.args d ([]++[b]) V q ze6 n.1 h;refine⟨t3,q3,fun g c=>?_,ja.tr n h4⟩;obtain⟨g,rfl,c⟩:=up c
     grind[mL]
end Go.Sp
namespace Go.Xp
def ZW(e:Int):∀f,(∀j ts,rd e f j ts=.error bs\/rd e (f+1) j ts=rd e f j ts)/\(∀d H ts,rd.args e f d H ts=.error bs\/rd.args e (f+1) d H ts=rd.args e f d H ts):=by
 intro f
 induction f with
 |zero=>exact⟨fun j ts=>.inl (by simp[rd]),fun d H ts=>.inl zfy⟩
 |succ f O =>
  have⟨u,v⟩:=O;refine⟨fun j ts=>?_,fun d H ts=>?_⟩
  ·rw[rd.eq_def e (f+1+1),rd.eq_def e (f+1)]
   cases j with
   |expr d =>
    grind
   |level k d =>
    grind
   |loop k d out =>
    grind
   |operand d =>
    simp only;split
    ·simp
    ·cases ts with
     |nil=>simp
     |cons t r =>
      grind
  grind[rd.args]
def J2{e:Int}{f B:Nat}{j:uq}{ts:List Tok}(h:rd e f j ts≠.error bs)(hf:f<=B):rd e B j ts=rd e f j ts:=by
 obtain⟨k,rfl⟩:=Nat.exists_eq_add_of_le hf;clear hf
 induction k with
 |zero=>rfl
 |succ k O =>
  rcases(ZW e (f+k)).1 j ts with M|M
  ·grind
  grind
def B7{e:Int}{f d:Nat}{ts:List Tok}(h:20*ts.length+12<=f):rd e f (.expr d) ts=expr e d ts:=by
 have s:rd e (20*ts.length+12) (.expr d) ts≠.error bs:=yS (j:=.expr d) trivial (aQ _);rw[J2 s h];unfold expr nJ;exact(J2 s aI).symm
def V4(t:T):Prop:=t.n.ab=3->∃a,t.au=[a]
def O8(e:Int):∀f j,(∀k d out,j≠.loop k d out)->∀t r,rd e f j []≠.ok (t,r):=by
 intro f
 induction f with
 |zero=>simp[Rd,rd,Er]
 |succ f O =>
  intro j G t r h;rw[rd.eq_def]at h
  grind
def O7(e:Int):∀f j ts t r,(∀k d out,j=.loop k d out->V4 out)->rd e f j ts=.ok (t,r)->V4 t:=by
 intro f
 induction f with
 |zero=>simp[V4,Rd,rd,Er]
 |succ f Q =>
  intro j ts t r G h;rw[rd.eq_def]at h
  cases j with
  |expr d =>
   grind
  |level k d =>
   grind
  |loop k d out =>
   cases ts with
   |nil=>grind
   |cons a l =>
    simp only at h;split at h
    ·split at h
     ·cases h
     ·exact Q _ _ _ _ (fun A J O F=>by cases F;intro v;exact absurd v (by simp[one,T.n])) h
    grind
  |operand d =>
   simp only at h;split at h
   ·cases h
   ·cases ts with
    |nil=>cases h
    |cons a l =>
     simp only at h;split at h
     ·split at h
      ·split at h
       ·cases h
       ·cases h;intro v;exact zeL
      grind
     ·split at h
      ·cases h;intro v;exact absurd v (by simp[T.n])
      ·split at h
       ·cases h
       ·split at h
        ·split at h
         ·cases h
         ·split at h
          ·cases h
          ·cases h;exact fun _=>⟨_,rfl⟩
        ·split at h
         ·split at h
          ·cases h
          ·cases h;intro v;exact zeL
         ·cases h;intro v;exact zeL
end Go.Xp
namespace Go.Sp
open Go.Xp
def ZC{d:Nat}{ts:List Tok}{p:RS}(A:On p ts):∃t q,mX d p=some (t,q)/\ja p q t (expr p.e d ts):=by
 have T:ts.length<=p.l.length:=by rw[<-A.rest,mr];omega
 have s:rd p.e (20*ts.length+12) (.expr d) ts≠.error bs:=yS (j:=.expr d) trivial (aQ _);have⟨t,q,M,v⟩:=(je _).expr d ts p A s;rw[B7 (aQ _)]at v;exact⟨t,q,M _ (by grind[KF,fe]),v⟩
def F8{d:Nat}{p:RS}(h:p.code≠0):mX d p=some (T.zero,p):=XJ h (by simp[fe])
def F7{p:RS}(h:p.code≠0){g d:Nat}(hg:2<=g):mS g (.block d) p=some (one 14 p.place [] [],p):=by
 obtain⟨g,rfl⟩:∃W,g=W+2:=⟨g-2,by omega⟩;rw[mS,re h,iG h aC];simp only[mB,h,false_and,if_false];rw[iG h aC]
def Pr{p:RS}(h:p.code≠0){g d:Nat}(hg:1<=g):mS g (.stmt d) p=some (one 12 p.place [] [T.zero],p):=by
 obtain⟨g,rfl⟩:∃W,g=W+1:=⟨g-1,by omega⟩;rw[mS,re h];simp only[mj h];rw[D aC,D aC,D aC,D (fun x=>h x.1),F8 h]
 have G:¬(T.zero.n.ab=3/\T.zero.n.at_=p.place/\p.aE 0=[61]):=fun x=>absurd x.1 aC
 simp only;rw[D G,iG h aC]
structure JS'(f:Nat):Prop where
 block:∀d ts p,On p ts->rs p.e f (.block d) ts≠.error bs->∃t q,(∀g,KF f<=g->mS g (.block d) p=some (t,q))/\ja p q t (rs p.e f (.block d) ts)
 stmt:∀d ts p,On p ts->rs p.e f (.stmt d) ts≠.error bs->∃t q,(∀g,KF f<=g->mS g (.stmt d) p=some (t,q))/\ja p q t (rs p.e f (.stmt d) ts)
 body:∀d acc ts p,On p ts->rs.body p.e f d acc ts≠.error bs->∃t q,(∀g,KF f<=g->mB g d acc p=some (t,q))/\ja p (q.a6 [125]) t (rs.body p.e f d acc ts)
def LF{d:Nat}{ts:List Tok}{p:RS}(A:On p ts):(∃t q r,mX d p=some (t,q)/\expr p.e d ts=.ok (t,r)/\cv p q (.ok r))\/(∃t q x,mX d p=some (t,q)/\expr p.e d ts=.error x/\cv p q (.error x)):=by
 have⟨t,q,M,v⟩:=ZC (d:=d) A
 cases R:expr p.e d ts with
 |error x=>rw[R]at v;exact .inr ⟨t,q,x,M,rfl,v⟩
 |ok y =>
  have⟨b,r⟩:=y;rw[R]at v;obtain⟨rfl,v⟩:=v
  grind
def yP{s:ai}{ts:List Tok}{p:RS}(A:On p ts)(q:s≠[]):(∃r,Go.Xp.a6 p.e s ts=.ok r/\cv p (p.a6 s) (.ok r))\/(∃x,Go.Xp.a6 p.e s ts=.error x/\cv p (p.a6 s) (.error x)):=by
 have h:=A.a6 q
 cases R:Go.Xp.a6 p.e s ts with
 |ok r=>grind
 |error x=>grind
def UU{ts:List Tok}{p:RS}(A:On p ts):(∃r,Go.Xp.name p.e ts=.ok (p.name.1,r)/\cv p p.name.2 (.ok r))\/(∃x,Go.Xp.name p.e ts=.error x/\cv p p.name.2 (.error x)):=by
 rcases A.name with h|h
 ·cases R:Go.Xp.name p.e ts with
  |ok y =>
   have⟨s,r⟩:=y;rw[R]at h;obtain⟨rfl,h⟩:=h
   grind
  |error x=>rw[R]at h;exact .inr ⟨x,rfl,h⟩
 grind
def zO{d:Nat}{ts:List Tok}{p:RS}{b:ai}(A:On p ts)(z:b≠[]):∃t q,mX d p=some (t,q)/\((∃r j,expr p.e d ts=.ok (t,r)/\Go.Xp.a6 p.e b r=.ok j/\cv p (q.a6 b) (.ok j))\/(∃r x,expr p.e d ts=.ok (t,r)/\Go.Xp.a6 p.e b r=.error x/\cv p (q.a6 b) (.error x))\/(∃x,expr p.e d ts=.error x/\cv p (q.a6 b) (.error x))):=by
 rcases LF (d:=d) A with⟨t,q,r,M,w,v⟩|⟨t,q,x,M,w,v⟩
 ·refine⟨t,q,M,?_⟩
  rcases yP v.1 z with⟨j,N,S⟩|⟨x,N,S⟩
  ·rw[v.2.2]at N;exact .inl ⟨r,j,w,N,v.tr S⟩
  ·rw[v.2.2]at N;exact .inr (.inl ⟨r,x,w,N,v.tr S⟩)
 ·exact⟨t,q,M,.inr (.inr ⟨x,w,by rw[iG v.err z];exact v⟩)⟩
theorem On.ox{ts:List Tok}{p:RS}(A:On p ts):p.ox=(match ts with|t::_=>decide (t.ab=2)|[]=>false):=by
 have h:=A.at 0
 grind[RS.ox]
section
variable{d:Nat}{ts:List Tok}{p:RS}
def FX{a b:ai}(A:On p ts)(ha:a≠[])(w:b≠[]):∃t q,mX d (p.a6 a)=some (t,q)/\((∃r,inner p.e d a b ts=.ok (t,r)/\cv p (q.a6 b) (.ok r))\/∃x,inner p.e d a b ts=.error x/\cv p (q.a6 b) (.error x)):=by
 unfold Go.Xp.inner
 rcases yP A ha with⟨r,M,v⟩|⟨x,M,v⟩
 ·rw[M];have⟨t,q,z,N⟩:=zO (d:=d) (b:=b) v.1 w;rw[v.2.2]at N;refine⟨t,q,z,?_⟩;simp only
  rcases N with⟨r,j,B,L,u⟩|⟨r,x,B,L,u⟩|⟨x,B,u⟩
  ·rw[B];simp only;rw[L];exact .inl ⟨j,rfl,v.tr u⟩
  ·rw[B];simp only;rw[L];exact zbw
  ·rw[B];exact zbw
 ·rw[M];exact⟨T.zero,p.a6 a,F8 v.err,.inr ⟨x,rfl,by rw[iG v.err w];exact v⟩⟩
def GJ(A:On p ts):∃t q,mX d (p.name.2.a6 [61])=some (t,q)/\((∃r,l6 p.e d ts=.ok ((p.name.1,t),r)/\cv p (q.a6 [59]) (.ok r))\/∃x,l6 p.e d ts=.error x/\cv p (q.a6 [59]) (.error x)):=by
 unfold Go.Xp.l6
 rcases UU A with⟨r,M,v⟩|⟨x,M,v⟩
 ·rw[M];have⟨t,q,w,N⟩:=FX (d:=d) (a:=[61]) (b:=[59]) v.1 aC aC;rw[v.2.2]at N;refine⟨t,q,w,?_⟩;simp only
  rcases N with⟨r,B,u⟩|⟨x,B,u⟩
  ·rw[B];exact .inl ⟨r,rfl,v.tr u⟩
  ·rw[B];exact zbw
 ·rw[M];refine⟨T.zero,p.name.2,by rw[iG v.err aC];exact F8 v.err,.inr ⟨x,rfl,by rw[iG v.err aC];exact v⟩⟩
end
def js(f:Nat):JS' f:=by
 induction f with
 |zero=>exact⟨fun d z p _ h=>absurd zfK h,fun d z p _ h=>absurd zfK h,fun d R z p _ h=>absurd zfy h⟩
 |succ f C =>
  refine⟨fun d z p w h=>?_,fun d z p w h=>?_,fun d R z p w h=>?_⟩
  ·rw[rs]at h |-
   by_cases hd:d>60
   ·rw[ae hd]at h |-;have hf:=w.fail 9 p.place aC;refine⟨one 14 (p.fail 9 p.place).place [] [],p.fail 9 p.place,fun g j=>?_,by rw[<-w.place];exact hf⟩
    have hdf:p.aX d=p.fail 9 p.place:=by grind[RS.aX]
    have:=F7 (g:=g) (d:=d) hf.err zfL;obtain⟨g,rfl,j⟩:=up j;rw[mS]at this |-;rw[re hf.err]at this
    grind
   ·rw[D hd]at h |-
    have E:p.aX d=p:=by grind[RS.aX]
    rcases yP w (s:=[123]) aC with⟨r,B,i⟩|⟨x,B,i⟩
    ·rw[B]at h |-;simp only at h |-;rw[<-i.2.2]at h |-
     have L:rs.body (p.a6 [123]).e f (d+1) [] r≠.error bs:=fun S=>h (by rw[S])
     have⟨l,q,m,u⟩:=C.body (d+1) [] r (p.a6 [123]) i.1 L
     have J:place (p.a6 [123]).e z=p.place:=by rw[i.2.2,w.place]
     refine⟨one 14 p.place [] l,q.a6 [125],fun g j=>?_,?_⟩
     ·obtain⟨g,rfl,j⟩:=up j
      grind[mS]
     ·cases W:rs.body (p.a6 [123]).e f (d+1) [] r with
      |error x=>rw[W]at u;exact i.tr (y:=.error x) u
      |ok y=>have⟨l',r'⟩:=y;rw[W]at u;obtain⟨rfl,u⟩:=u;rw[J];exact⟨rfl,i.tr u⟩
    ·rw[B]at h |-;refine⟨one 14 p.place [] [],p.a6 [123],fun g j=>?_,i⟩;obtain⟨g,rfl,j⟩:=up j;rw[mS,E];obtain⟨g,rfl⟩:∃g',g=g'+1:=⟨g-1,by omega⟩;simp only[mB,i.err,false_and,if_false];rw[iG i.err aC]
  ·rw[rs]at h |-
   by_cases hd:d>60
   ·rw[ae hd]at h |-;have hf:=w.fail 9 p.place aC
    have hdf:p.aX d=p.fail 9 p.place:=by grind[RS.aX]
    refine⟨one 12 (p.fail 9 p.place).place [] [T.zero],p.fail 9 p.place,fun g j=>?_,by rw[<-w.place];exact hf⟩;have:=Pr (g:=g) (d:=d) hf.err zfL;obtain⟨g,rfl,j⟩:=up j;rw[mS]at this |-;rw[re hf.err]at this
    grind
   ·rw[D hd]at h |-
    have E:p.aX d=p:=by grind[RS.aX]
    have DC:p.aE 0=aE z 0:=w.aE 0;have ab1:p.aE 1=aE z 1:=w.aE 1;have J:=w.place;simp only at h |-
    by_cases hv:aE z 0=lV
    ·rw[ae hv];have⟨tv,O,_⟩:=ez aC hv;have o:=w;rw[O]at o
     have o:=o.next
     rw[show p.e=p.next.e from rfl]
     rcases GJ (d:=d+1) o.1 with⟨t,q,B,⟨r,i,m⟩|⟨x,i,m⟩⟩
     ·rw[i];refine⟨one 13 p.place p.next.name.1 [t],q.a6 [59],fun g j=>?_,by rw[J];rfl,o.tr m⟩;obtain⟨g,rfl,j⟩:=up j;rw[mS,E]
      grind
     ·rw[i];refine⟨one 13 p.place p.next.name.1 [t],q.a6 [59],fun g j=>?_,o.tr (y:=.error x) m⟩;obtain⟨g,rfl,j⟩:=up j;rw[mS,E]
      grind
    rw[D hv]at h |-
    by_cases V:aE z 0=fZ\/aE z 0=gA
    ·rw[ae V]at h |-
     obtain⟨tv,O,hk3,hts⟩:∃t,z=t::z.tail/\t.ab=3/\t.s=aE z 0:=by
      rcases V with V|V
      ·have⟨t,B,i,m⟩:=ez aC V;grind
      ·have⟨t,B,i,m⟩:=ez aC V;grind
     have o:=w;rw[O]at o
     have o:=o.next
     have NP:p.ck=if aE z 0=fZ then 9 else 10:=by grind[RS.ck]
     have Q:∀(t:T)(q:RS),(∀g,KF f<=g->mS (g+1) (.cond p.place d) p=some (t,q))->∀g,KF (f+1)<=g->mS g (.stmt d) p=some (t,q):=by
      intro t q hk g j;obtain⟨g,rfl,j⟩:=up j;rw[mS,E];rw[D ze3,ae ze3];obtain⟨g,rfl⟩:∃g',g=g'+1:=⟨g-1,by omega⟩
      grind
     rcases FX (d:=d+1) (a:=[40]) (b:=[41]) o.1 aC aC with⟨c,q,B,⟨r,i,m⟩|⟨x,i,m⟩⟩
     ·rw[show p.next.e=p.e from rfl]at i;rw[i]at h |-;simp only at h |-;have m:=o.tr m
      have L:rs p.e f (.block (d+1)) r≠.error bs:=fun S=>h (by rw[S])
      rw[<-m.2.2]at L;have⟨b,q2,u,A⟩:=C.block (d+1) r (q.a6 [41]) m.1 L;rw[m.2.2]at A
      cases W:rs p.e f (.block (d+1)) r with
      |error x =>
       rw[W]at A;refine⟨one p.ck p.place [] [c,b],q2,Q _ _ fun g j=>?_,m.tr (y:=.error x) A⟩;rw[mS,B];simp only;rw[u g j];simp only;rw[D (by rw[mj (cv.err A)];simp[RS.ck,ai,iv])]
      |ok y =>
       have⟨b',r2⟩:=y;rw[W]at A h;obtain⟨rfl,A⟩:=A;simp only at h |-;have A:=m.tr A;have zr:q2.aE 0=aE r2 0:=A.1.aE 0
       by_cases hi:aE z 0=fZ
       ·rw[ae hi]at h NP |-
        by_cases sa:aE r2 0=iv
        ·rw[ae sa]at h |-;have⟨te,AX,_⟩:=ez aC sa;have F:=A.1;rw[AX]at F
         have F:=A.tr F.next
         have L:rs p.e f (.block (d+1)) r2.tail≠.error bs:=fun S=>h (by rw[S])
         rw[<-F.2.2]at L
         have⟨b2,q3,h6,h7⟩:=C.block (d+1) r2.tail q2.next F.1 L
         rw[F.2.2]at h7;refine⟨one p.ck p.place [] [c,b,b2],q3,Q _ _ fun g j=>?_,?_⟩
         ·grind[mS,RS.place,one,RS.ck]
         ·cases xO:rs p.e f (.block (d+1)) r2.tail with
          |error x=>rw[xO]at h7;exact F.tr (y:=.error x) h7
          |ok y=>have⟨b3,r3⟩:=y;rw[xO]at h7;obtain⟨rfl,h7⟩:=h7;exact⟨by grind,F.tr h7⟩
        ·rw[D sa];refine⟨one p.ck p.place [] [c,b],q2,Q _ _ fun g j=>?_,by grind,A⟩
         grind[mS,RS.place,one,RS.ck]
       ·rw[D hi]at NP |-;refine⟨one p.ck p.place [] [c,b],q2,Q _ _ fun g j=>?_,by grind,A⟩
        grind[mS,RS.place,one,RS.ck]
     ·rw[show p.next.e=p.e from rfl]at i;rw[i]at h |-;have m:=o.tr (y:=.error x) m;refine⟨one p.ck p.place [] [c,one 14 (q.a6 [41]).place [] []],q.a6 [41],Q _ _ fun g j=>?_,m⟩;rw[mS,B];simp only;rw[F7 m.err zfL];simp only;rw[D (by rw[mj m.err];simp[RS.ck,ai,iv])]
    rw[D V]at h |-
    have hcp:¬(p.aE 0=fZ\/p.aE 0=gA):=by grind
    by_cases hr:aE z 0=gJ
    ·rw[ae hr];have⟨tv,O,_⟩:=ez aC hr;have o:=w;rw[O]at o
     have o:=o.next
     have⟨t,q,B,i⟩:=zO (d:=d+1) (b:=[59]) o.1 aC;rw[show p.next.e=p.e from rfl]at i;refine⟨one 11 p.place [] [t],q.a6 [59],fun g j=>?_,?_⟩
     ·obtain⟨g,rfl,j⟩:=up j
      exact zdZ
     ·rcases i with⟨r,r',i,m,u⟩|⟨r,x,i,m,u⟩|⟨x,i,u⟩
      ·rw[i];simp only;rw[m];exact⟨by rw[J],o.tr u⟩
      ·rw[i];simp only;rw[m];exact zeH
      ·rw[i];exact zeH
    rw[D hr]at h |-
    have hrp:¬p.aE 0=gJ:=by grind
    have hvp:¬p.aE 0=lV:=by grind
    have hnm:=w.ox
    cases z with
    |nil =>
     have N:¬(p.code=0/\p.ox=true/\p.aE 1=[61]):=fun hx=>by grind
     rcases LF (d:=d+1) w with⟨t,q,r,B,i,m⟩|⟨t,q,x,B,i,m⟩
     ·exact zeQ
     ·have G:¬(t.n.ab=3/\t.n.at_=p.place/\q.aE 0=[61]):=by rw[mj m.err];simp
      refine⟨one 12 p.place [] [t],q.a6 [59],fun g j=>?_,by unfold simple;rw[i,iG m.err aC];exact m⟩;obtain⟨g,rfl,j⟩:=up j
      exact zdZ
    |cons a r0 =>
     simp only[simple]at h |-;simp only at hnm
     by_cases M:a.ab=2/\aE (a::r0) 1=[61]
     ·rw[ae M];have N:p.code=0/\p.ox=true/\p.aE 1=[61]:=⟨w.code,by grind,by grind⟩
      rcases GJ (d:=d+1) w with⟨t,q,B,⟨r,i,m⟩|⟨x,i,m⟩⟩
      ·rw[i];refine⟨one 7 p.place p.name.1 [t],q.a6 [59],fun g j=>?_,by rw[J];rfl,m⟩;obtain⟨g,rfl,j⟩:=up j;rw[mS,E]
       grind
      ·rw[i];refine⟨one 7 p.place p.name.1 [t],q.a6 [59],fun g j=>?_,m⟩;obtain⟨g,rfl,j⟩:=up j;rw[mS,E]
       grind
     ·rw[D M]
      have N:¬(p.code=0/\p.ox=true/\p.aE 1=[61]):=fun hx=>M ⟨by grind,by grind⟩
      have aaZ:p.place=a.at_:=J
      rcases LF (d:=d+1) w with⟨t,q,r,B,i,m⟩|⟨t,q,x,B,i,m⟩
      ·rw[i];simp only;have zr:q.aE 0=aE r 0:=m.1.aE 0
       by_cases H:t.n.ab=3/\t.n.at_=a.at_/\aE r 0=[61]
       ·rw[ae H]
        have G:t.n.ab=3/\t.n.at_=p.place/\q.aE 0=[61]:=by grind
        have⟨te,AX,_⟩:=ez aC H.2.2;have o:=m.1;rw[AX]at o
        have o:=m.tr o.next
        obtain⟨ix,hix⟩:=O7 _ _ _ _ _ _ (fun k d out hj=>by cases hj) i H.1
        have Jn:∀ts',Go.Xp.inner p.e (d+1) [61] [59] ts'=Go.Xp.inner p.e (d+1) [61] [59] ts':=fun _=>rfl
        have Dz:Go.Xp.a6 p.e [61] r=.ok r.tail:=by grind[a6]
        have⟨v,q2,u,A⟩:=zO (d:=d+1) (b:=[59]) o.1 aC;rw[o.2.2]at A;refine⟨one 8 p.place t.n.s [ix,v],q2.a6 [59],fun g j=>?_,?_⟩
        ·obtain⟨g,rfl,j⟩:=up j;rw[mS,E]
         grind
        ·unfold Go.Xp.inner;rw[Dz];simp only
         rcases A with⟨r2,r',i,m,u⟩|⟨r2,x,i,m,u⟩|⟨x,i,u⟩
         ·rw[i];simp only;rw[m];exact⟨by grind,o.tr u⟩
         ·rw[i];simp only;rw[m];exact zeH
         ·rw[i];exact zeH
       ·rw[D H]
        have G:¬(t.n.ab=3/\t.n.at_=p.place/\q.aE 0=[61]):=by grind
        refine⟨one 12 p.place [] [t],q.a6 [59],fun g j=>?_,?_⟩
        ·obtain⟨g,rfl,j⟩:=up j
         exact zdZ
        ·rcases yP m.1 (s:=[59]) aC with⟨r',u,A⟩|⟨x,u,A⟩
         ·rw[m.2.2]at u;rw[u];exact⟨by rw[aaZ],m.tr A⟩
         ·rw[m.2.2]at u;rw[u];exact m.tr (y:=.error x) A
      ·rw[i]
       have G:¬(t.n.ab=3/\t.n.at_=p.place/\q.aE 0=[61]):=by rw[mj m.err];simp
       refine⟨one 12 p.place [] [t],q.a6 [59],fun g j=>?_,by rw[iG m.err aC];exact m⟩;obtain⟨g,rfl,j⟩:=up j
       exact zdZ
  ·rw[rs.body]at h |-;have DC:p.aE 0=aE z 0:=w.aE 0
   by_cases L:aE z 0=[125]
   ·rw[ae L];have hm:=w.a6 (s:=[125]) aC;unfold Go.Xp.a6 at hm;rw[ae L]at hm;refine⟨R,p,fun g j=>?_,rfl,hm⟩;obtain⟨g,rfl,j⟩:=up j
    grind[mB]
   ·rw[D L]at h |-
    have hs:rs p.e f (.stmt d) z≠.error bs:=fun S=>h (by rw[S])
    have⟨a,q,B,i⟩:=C.stmt d z p w hs;have V:p.code=0/\¬p.aE 0=[125]:=⟨w.code,by grind⟩
    cases W:rs p.e f (.stmt d) z with
    |error x =>
     rw[W]at i h;refine⟨R++[a],q,fun g j=>?_,by rw[iG (cv.err i) aC];exact i⟩;obtain⟨g,rfl,j⟩:=up j;rw[mB,ae V,B g aI];simp only;obtain⟨g,rfl⟩:∃g',g=g'+1:=⟨g-1,by omega⟩;rw[mB,D (fun S=>cv.err i S.1)]
    |ok y =>
     have⟨a',r⟩:=y;rw[W]at i h;obtain⟨rfl,i⟩:=i;simp only at h |-;rw[<-i.2.2]at h |-;have⟨l,q3,m,u⟩:=C.body d (R++[a]) r q i.1 h;refine⟨l,q3,fun g j=>?_,ja.tr i u⟩;obtain⟨g,rfl,j⟩:=up j
     grind[mB]
end Go.Sp
namespace Go.Im
open Go.Xp Go.Sp
def tok(p:RS)(k:Nat):Tok:=match p.l[p.i+k]? with|some t=>t|none=>⟨0,0,[],p.e⟩
def is(p:RS)(k:Nat)(s:ai):Bool:=(tok p k).ab==3&&(tok p k).s==s
def ly(p:RS):RS:=p.fail 7 (tok p 0).at_
def want(p:RS)(s:ai):RS:=if p.code=0 then(if is p 0 s=true then p.next else ly p)else p
def bV(p:RS):RS:=if p.code=0 then(if(tok p 0).ab=2 then(if(tok p 0).s.length>12 then p.fail 8 (tok p 0).at_ else p.next)else ly p)else p
def cI(p:RS)(d:Nat):RS:=if d>60 then p.fail 9 (tok p 0).at_ else p
mutual
def iE:Nat->uq->RS->Option (T × RS)
 |0,_,_=>none
 |f+1,.expr d,p=>if(cI p d).code=0 then iE f (.level 0 (d+1)) (cI p d)else some (T.zero,cI p d)
 |f+1,.level k d,p =>
  if k=9 then iE f (.operand d) p
  else match iE f (.level (k+1) d) p with
   |none=>none
   |some (out,p)=>iE f (.loop k d out) p
 |f+1,.loop k d out,p =>
  if p.code=0/\(tok p 0).ab=3/\(levels.getD k []).contains (tok p 0).s=true then
   match iE f (.level (k+1) d) p.next with
   |none=>none
   |some (b,q)=>iE f (.loop k d (one 6 (tok p 0).at_ (tok p 0).s [out,b])) q
  else some (out,p)
 |f+1,.operand d,p =>
  if(cI p d).code=0 then
   if is p 0 [45]=true\/is p 0 [33]=true\/is p 0 [126]=true then match iE f (.operand (d+1)) p.next with
    |none=>none
    |some (a,q)=>some (one 5 (tok p 0).at_ (tok p 0).s [a],q)
   else if(tok p 0).ab=1 then some (.mk ⟨1,(tok p 0).at_,(tok p 0).n,[],[]⟩ [],p.next)
   else if is p 0 [40]=true then match iE f (.expr (d+1)) p.next with
    |none=>none
    |some (a,q)=>some (a,want q [41])
   else if(bV p).code=0 then
    if is (bV p) 0 [91]=true then match iE f (.expr (d+1)) (bV p).next with
     |none=>none
     |some (a,q)=>some (one 3 (tok p 0).at_ (tok p 0).s [a],want q [93])
    else if is (bV p) 0 [40]=true then match iA f (d+1) [] (bV p).next with
     |none=>none
     |some (l,q)=>some (one 4 (tok p 0).at_ (tok p 0).s l,q)
    else some (one 2 (tok p 0).at_ (tok p 0).s [],bV p)
   else some (one 2 (tok p 0).at_ (tok p 0).s [],bV p)
  else some (T.zero,cI p d)
def iA:Nat->Nat->List T->RS->Option (List T × RS)
 |0,_,_,_=>none
 |f+1,d,H,p =>
  if p.code=0/\is p 0 [41]=false then match iE f (.expr d) (if H.length=0 then p else want p [44])with
   |none=>none
   |some (a,q)=>iA f d (H++[a]) q
  else some (H,want p [41])
end
section
variable{p q:RS}{ts r:List Tok}
theorem On.tok(h:On p ts)(k:Nat):tok p k=(match ts[k]? with|some t=>t|none=>⟨0,0,[],p.e⟩):=by unfold Im.tok;rw[h.at]
def On.uh(h:On p ts):(Im.tok p 0).at_=Go.Xp.place p.e ts:=by
 rw[On.tok h]
 cases ts with
 |nil=>rfl
 |cons t r=>rfl
theorem On.is(h:On p ts)(k:Nat){s:ai}(u:s≠[]):is p k s=decide (aE ts k=s):=by
 unfold Im.is
 have R:aE ts k=(if(Im.tok p k).ab=3 then(Im.tok p k).s else[]):=by
  unfold Go.Xp.aE;rw[On.tok h]
  cases l:ts[k]? with
  |none=>simp
  |some t=>rfl
 grind
theorem ib(h:p.code≠0)(s:ai):want p s=p:=by grind[want]
theorem AK(h:p.code≠0)(d:Nat):cI p d=p:=by grind[tL,cI]
theorem ON(h:p.code≠0):bV p=p:=by grind[bV]
theorem On.ly(h:On p ts):cv p (ly p) (.error (7,place p.e ts)):=by
 unfold Im.ly;rw[On.uh h];exact h.fail 7 _ aC
theorem On.want(h:On p ts){s:ai}(v:s≠[]):cv p (want p s) (Go.Xp.a6 p.e s ts):=by
 unfold Im.want Go.Xp.a6;rw[ae h.code,On.is h 0 v]
 by_cases u:aE ts 0=s
 ·rw[ae ze3,ae u];have⟨t,o,_⟩:=ez v u;rw[o]at h
  exact h.next
 simp_all[D,On.ly]
theorem nb(h:On p ts){s:ai}(t:s≠[]):(∃r,Go.Xp.a6 p.e s ts=.ok r/\cv p (Im.want p s) (.ok r))\/(∃x,Go.Xp.a6 p.e s ts=.error x/\cv p (Im.want p s) (.error x)):=by
 have h:=On.want h t
 grind[Go.Xp.a6]
def tW(h:On p ts):(∃r,Go.Xp.name p.e ts=.ok ((Im.tok p 0).s,r)/\cv p (Im.bV p) (.ok r))\/(∃x,Go.Xp.name p.e ts=.error x/\cv p (Im.bV p) (.error x)):=by
 have o:=On.tok h 0;have R:=On.ly h;unfold Im.bV;rw[ae h.code]
 cases ts with
 |nil =>
  simp only[List.getElem?_nil]at o;rw[o];exact .inr ⟨_,rfl,by rw[D ze6];exact R⟩
 |cons t r =>
  simp only[getElem?_cons_zero]at o;rw[o];simp only[Go.Xp.name]
  by_cases v:t.ab=2
  ·rw[ae v,ae v]
   by_cases T:t.s.length>12
   ·rw[ae T,ae T];exact .inr ⟨_,rfl,h.fail 8 _ aC⟩
   ·rw[D T,D T];exact .inl ⟨r,rfl,h.next⟩
  ·rw[D v,D v];exact .inr ⟨_,rfl,R⟩
def FW(h:p.code≠0){g d:Nat}(hg:1<=g):iE g (.expr d) p=some (T.zero,p):=by
 obtain⟨g,rfl⟩:∃W,g=W+1:=⟨g-1,by omega⟩;rw[iE,AK h,D h]
theorem N8(h:p.code≠0){g k d:Nat}{out:T}(hg:1<=g):iE g (.loop k d out) p=some (out,p):=by
 obtain⟨g,rfl⟩:∃W,g=W+1:=⟨g-1,by omega⟩
 grind[iE]
end
structure IE(f:Nat):Prop where
 expr:∀d ts p,On p ts->rd p.e f (.expr d) ts≠.error bs->∃t q,(∀g,f+2<=g->iE g (.expr d) p=some (t,q))/\ja p q t (rd p.e f (.expr d) ts)
 level:∀k d ts p,k<=9->On p ts->rd p.e f (.level k d) ts≠.error bs->∃t q,(∀g,f+2<=g->iE g (.level k d) p=some (t,q))/\ja p q t (rd p.e f (.level k d) ts)
 loop:∀k d out ts p,k<9->On p ts->rd p.e f (.loop k d out) ts≠.error bs->∃t q,(∀g,f+2<=g->iE g (.loop k d out) p=some (t,q))/\ja p q t (rd p.e f (.loop k d out) ts)
 operand:∀d ts p,On p ts->rd p.e f (.operand d) ts≠.error bs->∃t q,(∀g,f+2<=g->iE g (.operand d) p=some (t,q))/\ja p q t (rd p.e f (.operand d) ts)
 args:∀d acc ts p,On p ts->rd.args p.e f d acc ts≠.error bs->∃t q,(∀g,f+2<=g->iA g d acc p=some (t,q))/\ja p q t (rd.args p.e f d acc ts)
def mY{f g:Nat}(h:f+1+2<=g):∃W,g=W+1/\f+2<=W:=⟨g-1,by omega,by omega⟩
def ie(f:Nat):IE f:=by
 induction f with
 |zero =>
  refine⟨fun d ts p _ h=>absurd ?_ h,fun k d ts p _ _ h=>absurd ?_ h,fun k d out ts p _ _ h=>absurd ?_ h,fun d ts p _ h=>absurd ?_ h,fun d A ts p _ h=>absurd ?_ h⟩<;>simp[rd,rd.args]
 |succ f C =>
  refine⟨fun d ts p j h=>?_,fun k d ts p hk j h=>?_,fun k d out ts p hk j h=>?_,fun d ts p j h=>?_,fun d A ts p j h=>?_⟩
  ·rw[rd]at h |-
   by_cases hd:d>60
   ·rw[ae hd]at h |-;have N:=j.fail 9 (tok p 0).at_ aC;refine⟨T.zero,p.fail 9 (tok p 0).at_,fun g c=>?_,by rw[<-On.uh j];exact N⟩;obtain⟨g,rfl,c⟩:=mY c
    have l:cI p d=p.fail 9 (tok p 0).at_:=by grind[cI]
    rw[iE,l,D N.err]
   ·rw[D hd]at h |-
    have l:cI p d=p:=by grind[cI]
    have⟨t,q,E,i⟩:=C.level 0 (d+1) ts p aI j h;refine⟨t,q,fun g c=>?_,i⟩;obtain⟨g,rfl,c⟩:=mY c;rw[iE,l,ae j.code]
    grind
  ·rw[rd]at h |-
   by_cases h9:k=9
   ·rw[ae h9]at h |-;have⟨t,q,E,i⟩:=C.operand d ts p j h;refine⟨t,q,fun g c=>?_,i⟩;obtain⟨g,rfl,c⟩:=mY c
    grind[iE]
   ·rw[D h9]at h |-
    cases o:rd p.e f (.level (k+1) d) ts with
    |error x =>
     rw[o]at h
     have hx:x≠bs:=fun G=>h zfA
     have⟨t,q,E,i⟩:=C.level (k+1) d ts p aI j ze3;rw[o]at i;refine⟨t,q,fun g c=>?_,i⟩;obtain⟨g,rfl,c⟩:=mY c;rw[iE,D h9,E g aI];exact N8 (cv.err i) aI
    |ok r =>
     have⟨t',r⟩:=r;rw[o]at h;simp only at h |-;have⟨t,q,E,i⟩:=C.level (k+1) d ts p aI j ze3;rw[o]at i;obtain⟨rfl,i⟩:=i;rw[<-i.2.2]at h |-;have⟨t3,q3,h3,h4⟩:=C.loop k d t r q aI i.1 h;refine⟨t3,q3,fun g c=>?_,ja.tr i h4⟩;obtain⟨g,rfl,c⟩:=mY c
     grind[iE]
  ·cases ts with
   |nil =>
    rw[rd];refine⟨out,p,fun g c=>?_,rfl,j.self⟩;obtain⟨g,rfl,c⟩:=mY c;rw[iE,D]
    grind[On.tok]
   |cons t r =>
    rw[rd]at h |-
    have R:tok p 0=t:=by grind[On.tok]
    by_cases hc:t.ab=3/\t.s∈levels.getD k []
    ·rw[ae hc]at h |-
     have z:=j.next
     have B:p.code=0/\(tok p 0).ab=3/\(levels.getD k []).contains (tok p 0).s=true:=by rw[R];exact⟨j.code,hc.1,by grind⟩
     rw[show p.e=p.next.e from rfl]at h |-
     cases o:rd p.next.e f (.level (k+1) d) r with
     |error x =>
      rw[o]at h
      have hx:x≠bs:=fun G=>h zfA
      have⟨b,q,E,i⟩:=C.level (k+1) d r p.next aI z.1 ze3
      rw[o]at i;refine⟨one 6 t.at_ t.s [out,b],q,fun g c=>?_,z.tr (y:=.error x) i⟩;obtain⟨g,rfl,c⟩:=mY c;rw[iE,ae B,E g aI,R];exact N8 (cv.err i) aI
     |ok x =>
      have⟨b',H⟩:=x;rw[o]at h;simp only at h |-
      have⟨b,q,E,i⟩:=C.level (k+1) d r p.next aI z.1 ze3
      rw[o]at i;obtain⟨rfl,i⟩:=i;rw[<-i.2.2]at h |-;have⟨t3,q3,h3,h4⟩:=C.loop k d (one 6 t.at_ t.s [out,b]) H q hk i.1 h;refine⟨t3,q3,fun g c=>?_,ja.tr (z.tr i) h4⟩;obtain⟨g,rfl,c⟩:=mY c
      grind[iE]
    ·rw[D hc];refine⟨out,p,fun g c=>?_,rfl,j.self⟩;obtain⟨g,rfl,c⟩:=mY c
     grind[iE]
  ·rw[rd.eq_def]at h |-;simp only at h |-
   by_cases hd:d>60
   ·rw[ae hd]at h |-;have N:=j.fail 9 (tok p 0).at_ aC;refine⟨T.zero,p.fail 9 (tok p 0).at_,fun g c=>?_,by rw[<-On.uh j];exact N⟩;obtain⟨g,rfl,c⟩:=mY c
    have l:cI p d=p.fail 9 (tok p 0).at_:=by grind[cI]
    rw[iE,l,D N.err]
   ·rw[D hd]at h |-
    have l:cI p d=p:=by grind[cI]
    have hi:∀s:ai,s≠[]->is p 0 s=decide (aE ts 0=s):=fun s hs=>On.is j 0 hs
    cases ts with
    |nil =>
     simp only
     have R:tok p 0=⟨0,0,[],p.e⟩:=by grind[On.tok]
     have Q:∀s:ai,s≠[]->is p 0 s=false:=fun s hs=>by grind[is]
     have S5:bV p=p.fail 7 p.e:=by unfold bV;rw[ae j.code,R,D ze6];grind[ly]
     have N:=j.fail 7 p.e aC;refine⟨one 2 p.e [] [],p.fail 7 p.e,fun g c=>?_,N⟩;obtain⟨g,rfl,c⟩:=mY c;rw[iE,l,ae j.code,Q _ aC,Q _ aC,Q _ aC,D aC,D ze3,Q _ aC,D aC,S5,D N.err,R]
    |cons t r =>
     simp only at h |-
     have R:tok p 0=t:=by grind[On.tok]
     have z:=j.next
     by_cases h3:t.ab=3
     ·rw[ae h3]at h |-
      have DC:aE (t::r) 0=t.s:=by simp only[aE,getElem?_cons_zero,dS,h3,if_true]
      have h31:¬t.ab=1:=by omega
      have hi':∀s:ai,s≠[]->is p 0 s=decide (t.s=s):=fun s hs=>by grind
      by_cases hu:t.s=[45]\/t.s=[33]\/t.s=[126]
      ·rw[ae hu]at h |-
       have v:is p 0 [45]=true\/is p 0 [33]=true\/is p 0 [126]=true:=by
        grind
       rw[show p.e=p.next.e from rfl]at h |-
       cases o:rd p.next.e f (.operand (d+1)) r with
       |error x =>
        rw[o]at h
        have hx:x≠bs:=fun G=>h zfA
        have⟨b,q,E,i⟩:=C.operand (d+1) r p.next z.1 ze3
        rw[o]at i;refine⟨one 5 t.at_ t.s [b],q,fun g c=>?_,z.tr (y:=.error x) i⟩;exact zeI
       |ok x =>
        have⟨b',H⟩:=x;rw[o]at h;simp only at h |-
        have⟨b,q,E,i⟩:=C.operand (d+1) r p.next z.1 ze3
        rw[o]at i;obtain⟨rfl,i⟩:=i;refine⟨one 5 t.at_ t.s [b],q,fun g c=>?_,rfl,z.tr i⟩;exact zeI
      ·rw[D hu]at h |-
       have v:¬(is p 0 [45]=true\/is p 0 [33]=true\/is p 0 [126]=true):=by
        grind
       by_cases S:t.s=[40]
       ·rw[ae S]at h |-
        have w:is p 0 [40]=true:=by grind
        rw[show p.e=p.next.e from rfl]at h |-
        cases o:rd p.next.e f (.expr (d+1)) r with
        |error x =>
         rw[o]at h
         have hx:x≠bs:=fun G=>h zfA
         have⟨b,q,E,i⟩:=C.expr (d+1) r p.next z.1 ze3
         rw[o]at i;refine⟨b,want q [41],fun g c=>?_,?_⟩
         ·exact zdA
         ·rw[ib (cv.err i)];exact z.tr (y:=.error x) i
        |ok x =>
         have⟨b',H⟩:=x;rw[o]at h;simp only at h |-
         have⟨b,q,E,i⟩:=C.expr (d+1) r p.next z.1 ze3
         rw[o]at i;obtain⟨rfl,i⟩:=i;have m:=(z.tr i).tr (On.want i.1 (s:=[41]) aC);rw[i.2.2]at m;refine⟨b,want q [41],fun g c=>?_,?_⟩
         ·exact zdA
         ·cases O:a6 p.next.e [41] H with
          |error x=>rw[O]at m;exact m
          |ok r2=>rw[O]at m;exact⟨rfl,m⟩
       ·rw[D S]at h |-
        have w:¬is p 0 [40]=true:=by grind
        have S5:bV p=p.fail 7 t.at_:=by unfold bV;rw[ae j.code,R,D aI];grind[ly]
        have N:=j.fail 7 t.at_ aC;refine⟨one 2 t.at_ t.s [],p.fail 7 t.at_,fun g c=>?_,N⟩;obtain⟨g,rfl,c⟩:=mY c;rw[iE,l,ae j.code,D v,D ze3,D w,S5,D N.err,R]
     ·rw[D h3]at h |-
      have Q:∀s:ai,s≠[]->is p 0 s=false:=fun s hs=>by grind[is]
      have v:¬(is p 0 [45]=true\/is p 0 [33]=true\/is p 0 [126]=true):=by grind
      by_cases E:t.ab=1
      ·rw[ae E];refine⟨_,p.next,fun g c=>?_,rfl,z⟩;obtain⟨g,rfl,c⟩:=mY c;rw[iE,l,ae j.code,D v,ae ze3,R]
      ·rw[D E]at h |-
       have L:¬(tok p 0).ab=1:=by grind
       have w:¬is p 0 [40]=true:=by grind
       rcases tW j with⟨H,W,u⟩|⟨x,W,u⟩
       ·rw[W]at h |-;simp only at h |-
        have hi2:∀s:ai,s≠[]->is (bV p) 0 s=decide (aE H 0=s):=fun s hs=>On.is u.1 0 hs
        by_cases S:aE H 0=[91]
        ·rw[ae S]at h |-
         have M:is (bV p) 0 [91]=true:=by grind
         have⟨tb,Xm,_⟩:=ez aC S;have n:=u.1;rw[Xm]at n
         have n:=u.tr n.next
         rw[<-n.2.2]at h |-
         cases o:rd (bV p).next.e f (.expr (d+1)) H.tail with
         |error x =>
          rw[o]at h
          have hx:x≠bs:=fun G=>h zfA
          have⟨b,q,k3,F⟩:=C.expr (d+1) H.tail (bV p).next n.1 ze3
          rw[o]at F;refine⟨one 3 t.at_ (tok p 0).s [b],want q [93],fun g c=>?_,?_⟩
          ·obtain⟨g,rfl,c⟩:=mY c;rw[iE,l,ae j.code,D v,D L,D w,ae u.1.code,ae M,k3 g aI]
           grind
          ·rw[ib (cv.err F)];exact n.tr (y:=.error x) F
         |ok x =>
          have⟨b',r2⟩:=x;rw[o]at h;simp only at h |-
          have⟨b,q,k3,F⟩:=C.expr (d+1) H.tail (bV p).next n.1 ze3
          rw[o]at F;obtain⟨rfl,F⟩:=F;have m:=(n.tr F).tr (On.want F.1 (s:=[93]) aC);rw[F.2.2]at m;refine⟨one 3 t.at_ (tok p 0).s [b],want q [93],fun g c=>?_,?_⟩
          ·obtain⟨g,rfl,c⟩:=mY c;rw[iE,l,ae j.code,D v,D L,D w,ae u.1.code,ae M,k3 g aI]
           grind
          ·cases O:a6 (bV p).next.e [93] r2 with
           |error x=>rw[O]at m;exact m
           |ok r3=>rw[O]at m;exact⟨rfl,m⟩
        ·rw[D S]at h |-
         have M:¬is (bV p) 0 [91]=true:=by grind
         by_cases hc:aE H 0=[40]
         ·rw[ae hc]at h |-
          have V:is (bV p) 0 [40]=true:=by grind
          have⟨tb,Xm,_⟩:=ez aC hc;have n:=u.1;rw[Xm]at n
          have n:=u.tr n.next
          rw[<-n.2.2]at h |-
          cases o:rd.args (bV p).next.e f (d+1) [] H.tail with
          |error x =>
           rw[o]at h
           have hx:x≠bs:=fun G=>h zfA
           have⟨b,q,k3,F⟩:=C.args (d+1) [] H.tail (bV p).next n.1 ze3
           rw[o]at F;refine⟨one 4 t.at_ (tok p 0).s b,q,fun g c=>?_,n.tr (y:=.error x) F⟩;obtain⟨g,rfl,c⟩:=mY c;rw[iE,l,ae j.code,D v,D L,D w,ae u.1.code,D M,ae V,k3 g aI]
           grind
          |ok x =>
           have⟨b',r2⟩:=x;rw[o]at h
           have⟨b,q,k3,F⟩:=C.args (d+1) [] H.tail (bV p).next n.1 ze3
           rw[o]at F;obtain⟨rfl,F⟩:=F;refine⟨one 4 t.at_ (tok p 0).s b,q,fun g c=>?_,rfl,n.tr F⟩;obtain⟨g,rfl,c⟩:=mY c;rw[iE,l,ae j.code,D v,D L,D w,ae u.1.code,D M,ae V,k3 g aI]
           grind
         ·rw[D hc]at h |-
          have V:¬is (bV p) 0 [40]=true:=by grind
          refine⟨one 2 t.at_ (tok p 0).s [],bV p,fun g c=>?_,rfl,u⟩;obtain⟨g,rfl,c⟩:=mY c;rw[iE,l,ae j.code,D v,D L,D w,ae u.1.code,D M,D V]
          grind
       ·rw[W]at h |-;refine⟨one 2 t.at_ (tok p 0).s [],bV p,fun g c=>?_,u⟩;obtain⟨g,rfl,c⟩:=mY c;rw[iE,l,ae j.code,D v,D L,D w,D u.err]
        grind
  ·rw[rd.args]at h |-;have hi:is p 0 [41]=decide (aE ts 0=[41]):=On.is j 0 aC
   by_cases S:aE ts 0=[41]
   ·rw[ae S];have hm:=On.want j (s:=[41]) aC;unfold Go.Xp.a6 at hm;rw[ae S]at hm;refine⟨A,want p [41],fun g c=>?_,rfl,hm⟩;obtain⟨g,rfl,c⟩:=mY c
    grind[iA,want]
   ·rw[D S]at h |-;have B:p.code=0/\is p 0 [41]=false:=⟨j.code,by grind⟩;have key:∀(p':RS)(J:List Tok),cv p p' (.ok J)->(if A.length=0 then p else want p [44])=p'->(match rd p.e f (.expr d) J with|.error x=>.error x|.ok (a,ts)=>rd.args p.e f d (A++[a]) ts:Rd (List T))≠.error bs ->
      ∃t q,(∀g,f+1+2<=g->iA g d A p=some (t,q))/\ja p q t (match rd p.e f (.expr d) J with|.error x=>.error x|.ok (a,ts)=>rd.args p.e f d (A++[a]) ts):=by
     intro p' J z S0 h;rw[<-z.2.2]at h |-
     cases o:rd p'.e f (.expr d) J with
     |error x =>
      rw[o]at h
      have hx:x≠bs:=fun G=>h zfA
      have⟨b,q,W,u⟩:=C.expr d J p' z.1 ze3;rw[o]at u;refine⟨A++[b],q,fun g c=>?_,z.tr (y:=.error x) u⟩;obtain⟨g,rfl,c⟩:=mY c;rw[iA,ae B,S0,W g aI];simp only;obtain⟨g,rfl⟩:∃g',g=g'+1:=⟨g-1,by omega⟩;rw[iA,D (fun G=>cv.err u G.1),ib (cv.err u)]
     |ok x =>
      have⟨b',H⟩:=x;rw[o]at h;simp only at h |-;have⟨b,q,W,u⟩:=C.expr d J p' z.1 ze3;rw[o]at u;obtain⟨rfl,u⟩:=u;rw[<-u.2.2]at h |-;have⟨t3,q3,h3,h4⟩:=C.args d (A++[b]) H q u.1 h;refine⟨t3,q3,fun g c=>?_,ja.tr (z.tr u) h4⟩;obtain⟨g,rfl,c⟩:=mY c
      grind[iA]
    cases A with
    |nil =>
     rw[ae rfl]at h |-;exact key p ts j.self rfl h
    |cons a0 acc0 =>
     rw[D ze6]at h |-
     rcases nb j (s:=[44]) aC with⟨H,W,u⟩|⟨x,W,u⟩
     ·grind
     ·rw[W];refine⟨a0::acc0++[T.zero],want p [44],fun g c=>?_,u⟩;obtain⟨g,rfl,c⟩:=mY c;rw[iA,ae B,D ze6,FW u.err aI];simp only;obtain⟨g,rfl⟩:∃g',g=g'+1:=⟨g-1,by omega⟩;rw[iA,D (fun G=>u.err G.1),ib u.err]
end Go.Im
namespace Go.Xp
abbrev uu(ts:List Tok):Prop:=ts.Pairwise fun a b=>a.at_<b.at_
section
variable{e:Int}{s:ai}{ts r:List Tok}
theorem wY(t:s≠[])(h:a6 e s ts=.ok r):∃u,ts=u::r/\u.ab=3/\u.s=s:=by
 have⟨M,v⟩:=Cr h
 simp_all[Go.Sp.ez]
theorem Gc(h:name e ts=.ok (s,r)):∃u,ts=u::r/\u.ab=2/\u.s=s/\s.length<=12:=by
 cases ts with
 |nil=>cases h
 |cons t ts =>
  grind[name]
end
def uc{s:ai}{ts:List Tok}(t:s≠[])(h:aE ts 0=s):∃u,ts=u::ts.tail/\u.ab=3/\u.s=s:=Go.Sp.ez t h
def KP(ts r:List Tok)(t:T):Prop:=∃a j,ts=a::(j++r)/\(uu ts->a.at_<=t.n.at_/\(t.n.ab=3->t.n.at_=a.at_->a.ab=2/\∃u w,a::j=u++[w]/\w.s=[93]))
def AD(ts r:List Tok)(out t:T):Prop:=(t=out/\r=ts)\/(t.n.ab=6/\∃j,ts=j++r/\∃u∈ts,t.n.at_=u.at_)
def Vk(e:Int):∀f,(∀j ts t r,(∀k d out,j≠.loop k d out)->rd e f j ts=.ok (t,r)->KP ts r t)/\(∀k d out ts t r,rd e f (.loop k d out) ts=.ok (t,r)->AD ts r out t)/\(∀d v ts l r,rd.args e f d v ts=.ok (l,r)->∃c,ts=c++r/\c≠[]):=by
 intro f
 induction f with
 |zero=>exact⟨fun j ts t r _ h=>by simp[rd]at h,fun k d out ts t r h=>by simp[rd]at h,fun d v ts l r h=>by simp[rd.args]at h⟩
 |succ f ih =>
  have⟨B,O,i3⟩:=ih;refine⟨fun j ts t r hj h=>?_,fun k d out ts t r h=>?_,fun d v ts l r h=>?_⟩
  ·rw[rd.eq_def]at h
   cases j with
   |expr d =>
    grind
   |level k d =>
    simp only at h;split at h
    ·grind
    ·split at h
     ·cases h
     ·rename_i out H i;have J:=B _ _ _ _ (fun k d out h=>by cases h) i;have S:=O _ _ _ _ _ _ h
      rcases S with⟨rfl,rfl⟩|⟨L,o,rfl,u,F,C⟩
      ·exact J
      ·obtain⟨a,c,rfl,M⟩:=J;refine⟨a,c++o,by simp,fun A=>⟨?_,fun h6=>by omega⟩⟩
       simp_all[uu,List.pairwise_cons,Int.le_of_lt,List.mem_append_right]
   |loop k d out=>grind
   |operand d =>
    simp only at h;split at h
    ·cases h
    ·cases ts with
     |nil=>cases h
     |cons a Q =>
      simp only at h;split at h
      ·rename_i L;split at h
       ·split at h
        ·cases h
        ·rename_i b G i;cases h;obtain⟨m,c,rfl,_⟩:=B _ _ _ _ (fun k d out h=>by cases h) i;exact⟨a,m::c,by simp,fun _=>⟨by simp[one,T.n],fun h=>by simp[one,T.n]at h⟩⟩
       ·split at h
        ·split at h
         ·cases h
         ·rename_i b G i;split at h
          ·cases h
          ·rename_i R E;cases h;obtain⟨m,c,rfl,M⟩:=B _ _ _ _ (fun k d out h=>by cases h) i;obtain⟨w,rfl,_,_⟩:=wY aC E;refine⟨a,m::(c++[w]),by simp,fun A=>?_⟩
           grind[List.pairwise_cons]
        ·cases h
      ·split at h
       ·cases h;simp[Int.le_refl,T.n,KP,Tok.at_,Tok.n]
       ·split at h
        ·cases h
        ·rename_i s G W;have⟨u,F,V,_⟩:=Gc W;cases F;split at h
         ·rename_i A;have⟨w,N,_,_⟩:=uc aC A;split at h
          ·cases h
          ·rename_i b R i;split at h
           ·cases h
           ·rename_i r4 E;cases h;obtain⟨m,c,C,M⟩:=B _ _ _ _ (fun k d out h=>by cases h) i;obtain⟨z,rfl,_,hz⟩:=wY aC E;refine⟨a,w::m::(c++[z]),by grind,fun _=>⟨Int.le_refl _,fun _ _=>⟨V,a::w::m::c,z,by simp,hz⟩⟩⟩
         ·split at h
          ·rename_i A;have⟨w,N,_,_⟩:=uc aC A;split at h
           ·cases h
           ·rename_i l R i;cases h;have⟨c,C,_⟩:=i3 _ _ _ _ _ i;exact⟨a,w::c,by grind,fun _=>⟨Int.le_refl _,fun h=>by simp[one,T.n]at h⟩⟩
          ·cases h;simp[Int.le_refl,T.n,KP,one,Tok.at_]
  ·cases ts with
   |nil=>grind[rd,AD]
   |cons a Q =>
    rw[rd]at h;split at h
    ·split at h
     ·cases h
     ·rename_i b G i;obtain⟨m,c,rfl,_⟩:=B _ _ _ _ (fun k d out h=>by cases h) i
      rcases O _ _ _ _ _ _ h with⟨rfl,rfl⟩|⟨L,o,rfl,u,F,C⟩
      ·exact .inr ⟨rfl,a::m::c,by simp,a,by simp,rfl⟩
      grind[AD]
    grind[AD]
  ·rw[rd.args]at h;split at h
   ·rename_i A;have⟨w,N,_,_⟩:=uc aC A;cases h;exact⟨[w],by grind,by simp⟩
   ·split at h
    ·cases h
    ·rename_i H hts;split at h
     ·cases h
     ·rename_i a Q i;obtain⟨m,c,C,_⟩:=B _ _ _ _ (fun k d out h=>by cases h) i
      grind[wY]
def Np{e:Int}{d:Nat}{ts r:List Tok}{t:T}(h:expr e d ts=.ok (t,r)):KP ts r t:=(Vk e _).1 _ _ _ _ (fun k d out h=>by cases h) h
end Go.Xp
namespace Go.Im
open Go.Xp Go.Sp
def uL(p:RS):ai:=match p.l[p.i-1]? with|some t=>t.s|none=>[]
def xa(p q:RS)(e:T):Prop:=e.n.ab=3/\q.code=0/\uL q=[93]/\e.n.at_=(tok p 0).at_/\(tok p 0).ab=2/\is q 0 [61]=true
instance(p q:RS)(e:T):Decidable (xa p q e):=by unfold xa;infer_instance
mutual
def iS:Nat->tz->RS->Option (T × RS)
 |0,_,_=>none
 |f+1,.block d,p =>
  if(cI p d).code=0 then match iB f (d+1) [] (want p [123])with
   |none=>none
   |some (l,q)=>some (one 14 (tok p 0).at_ [] l,want q [125])
  else some (one 14 (tok p 0).at_ [] [],cI p d)
 |f+1,.stmt d,p =>
  if(cI p d).code=0 then
   if is p 0 lV=true then match iE f (.expr (d+1)) (want (bV p.next) [61])with
    |none=>none
    |some (e,q)=>some (one 13 (tok p 0).at_ (tok p.next 0).s [e],want q [59])
   else if is p 0 fZ=true\/is p 0 gA=true then match iE f (.expr (d+1)) (want p.next [40])with
    |none=>none
    |some (c,q)=>match iS f (.block (d+1)) (want q [41])with
     |none=>none
     |some (b,q) =>
      if is p 0 fZ=true/\q.code=0/\is q 0 iv=true then match iS f (.block (d+1)) q.next with
       |none=>none
       |some (t,q)=>some (one 9 (tok p 0).at_ [] [c,b,t],q)
      else some (one (if is p 0 fZ=true then 9 else 10) (tok p 0).at_ [] [c,b],q)
   else if is p 0 gJ=true then match iE f (.expr (d+1)) p.next with
    |none=>none
    |some (e,q)=>some (one 11 (tok p 0).at_ [] [e],want q [59])
   else if(tok p 0).ab=2/\is p 1 [61]=true then match iE f (.expr (d+1)) (want (bV p) [61])with
    |none=>none
    |some (e,q)=>some (one 7 (tok p 0).at_ (tok p 0).s [e],want q [59])
   else match iE f (.expr (d+1)) p with
    |none=>none
    |some (e,q) =>
     if xa p q e then match e.au,iE f (.expr (d+1)) (want q [61])with
      |a::_,some (v,q)=>some (one 8 (tok p 0).at_ e.n.s [a,v],want q [59])
      |_,_=>none
     else some (one 12 (tok p 0).at_ [] [e],want q [59])
  else some (T.zero,cI p d)
def iB:Nat->Nat->List T->RS->Option (List T × RS)
 |0,_,_,_=>none
 |f+1,d,H,p=>if p.code=0/\is p 0 [125]=false then match iS f (.stmt d) p with
   |none=>none
   |some (a,q)=>iB f d (H++[a]) q
  else some (H,p)
end
def KI(p:RS)(f:Nat):Nat:=f+20*p.l.length+40
section
variable{p q:RS}{ts r:List Tok}
theorem Lo{d g:Nat}(A:On p ts)(hg:20*p.l.length+20<=g):∃t q,(∀g,20*p.l.length+20<=g->iE g (.expr d) p=some (t,q))/\((∃r,expr p.e d ts=.ok (t,r)/\cv p q (.ok r))\/(∃x,expr p.e d ts=.error x/\cv p q (.error x))):=by
 have T:ts.length<=p.l.length:=by rw[<-A.rest,mr];omega
 have s:rd p.e (20*ts.length+12) (.expr d) ts≠.error bs:=yS (j:=.expr d) trivial (aQ _);have⟨t,q,M,v⟩:=(ie _).expr d ts p A s;rw[B7 (aQ _)]at v;refine⟨t,q,fun g hg=>M g aI,?_⟩
 cases R:expr p.e d ts with
 |error x=>rw[R]at v;exact .inr ⟨x,rfl,v⟩
 |ok y=>have⟨b,r⟩:=y;rw[R]at v;obtain⟨rfl,v⟩:=v;grind
def Ln{d:Nat}{b:ai}(A:On p ts)(z:b≠[]):∃t q,(∀g,20*p.l.length+20<=g->iE g (.expr d) p=some (t,q))/\((∃r j,expr p.e d ts=.ok (t,r)/\Go.Xp.a6 p.e b r=.ok j/\cv p (want q b) (.ok j))\/(∃r x,expr p.e d ts=.ok (t,r)/\Go.Xp.a6 p.e b r=.error x/\cv p (want q b) (.error x))\/(∃x,expr p.e d ts=.error x/\cv p (want q b) (.error x))):=by
 obtain⟨t,q,M,w⟩:=Lo (d:=d) A (aQ _);refine⟨t,q,M,?_⟩
 rcases w with⟨r,w,v⟩|⟨x,w,v⟩
 ·rcases nb v.1 z with⟨j,N,S⟩|⟨x,N,S⟩
  ·rw[v.2.2]at N;exact .inl ⟨r,j,w,N,v.tr S⟩
  ·rw[v.2.2]at N;exact .inr (.inl ⟨r,x,w,N,v.tr S⟩)
 ·exact .inr (.inr ⟨x,w,by rw[ib v.err];exact v⟩)
def N7{d:Nat}{a b:ai}(A:On p ts)(ha:a≠[])(z:b≠[]):∃t q,(∀g,20*p.l.length+20<=g->iE g (.expr d) (want p a)=some (t,q))/\((∃r,inner p.e d a b ts=.ok (t,r)/\cv p (want q b) (.ok r))\/∃x,inner p.e d a b ts=.error x/\cv p (want q b) (.error x)):=by
 unfold Go.Xp.inner
 rcases nb A ha with⟨r,M,v⟩|⟨x,M,v⟩
 ·rw[M];have⟨t,q,w,N⟩:=Ln (d:=d) (b:=b) v.1 z;rw[v.2.2]at N;rw[v.2.1]at w;refine⟨t,q,w,?_⟩;simp only
  rcases N with⟨r,j,B,L,u⟩|⟨r,x,B,L,u⟩|⟨x,B,u⟩
  ·rw[B];simp only;rw[L];exact .inl ⟨j,rfl,v.tr u⟩
  ·rw[B];simp only;rw[L];exact zbw
  ·rw[B];exact zbw
 ·rw[M];exact⟨T.zero,want p a,fun g C=>FW v.err aI,.inr ⟨x,rfl,by rw[ib v.err];exact v⟩⟩
def Od{d:Nat}(A:On p ts):∃t q,(∀g,20*p.l.length+20<=g->iE g (.expr d) (want (bV p) [61])=some (t,q))/\((∃r,l6 p.e d ts=.ok (((tok p 0).s,t),r)/\cv p (want q [59]) (.ok r))\/∃x,l6 p.e d ts=.error x/\cv p (want q [59]) (.error x)):=by
 unfold Go.Xp.l6
 rcases tW A with⟨r,M,v⟩|⟨x,M,v⟩
 ·rw[M];have⟨t,q,w,N⟩:=N7 (d:=d) (a:=[61]) (b:=[59]) v.1 aC aC;rw[v.2.2]at N;rw[v.2.1]at w;refine⟨t,q,w,?_⟩;simp only
  rcases N with⟨r,B,u⟩|⟨x,B,u⟩
  ·rw[B];exact .inl ⟨r,rfl,v.tr u⟩
  ·rw[B];exact zbw
 ·rw[M];refine⟨T.zero,bV p,fun g C=>by rw[ib v.err];exact FW v.err aI,.inr ⟨x,rfl,by rw[ib v.err];exact v⟩⟩
def QP(h:p.code≠0){g d:Nat}(hg:1<=g):iS g (.block d) p=some (one 14 (tok p 0).at_ [] [],p):=by
 obtain⟨g,rfl⟩:∃W,g=W+1:=⟨g-1,by omega⟩;rw[iS,AK h,D h]
theorem On.srt(h:On p ts)(s:uu p.l):uu ts:=by rw[<-h.rest];grind
theorem On.last(h:On p ts){j r:List Tok}{w:Tok}(m:cv p q (.ok r))(o:ts=(j++[w])++r):uL q=w.s:=by
 have M:p.l=p.l.take p.i++(j++w::r):=by
  have:=List.take_append_drop p.i p.l;rw[h.rest,o]at this
  grind
 have t:=congrArg List.length m.1.rest;have T:=congrArg List.length M;have V:=m.1.le;have A:=h.le;rw[m.2.1]at t V;simp only[mr,bf,length_cons,kr]at t T;unfold uL;rw[m.2.1,M,lz ze3,lz ze3]
 grind
end
structure IS'(f:Nat):Prop where
 block:∀d ts p,On p ts->uu p.l->rs p.e f (.block d) ts≠.error bs->∃t q,(∀g,KI p f<=g->iS g (.block d) p=some (t,q))/\ja p q t (rs p.e f (.block d) ts)
 stmt:∀d ts p,On p ts->uu p.l->rs p.e f (.stmt d) ts≠.error bs->∃t q,(∀g,KI p f<=g->iS g (.stmt d) p=some (t,q))/\ja p q t (rs p.e f (.stmt d) ts)
 body:∀d acc ts p,On p ts->uu p.l->rs.body p.e f d acc ts≠.error bs->∃t q,(∀g,KI p f<=g->iB g d acc p=some (t,q))/\ja p (want q [125]) t (rs.body p.e f d acc ts)
def pE{p:RS}{f g:Nat}(h:KI p (f+1)<=g):∃W,g=W+1/\KI p f<=W/\20*p.l.length+20<=W:=⟨g-1,by grind[KI],by grind[KI],by grind[KI]⟩
def Et{p q:RS}(h:q.l=p.l)(f:Nat):KI q f=KI p f:=by grind[KI]
def is_(f:Nat):IS' f:=by
 induction f with
 |zero=>exact⟨fun d ts p _ _ h=>absurd zfK h,fun d ts p _ _ h=>absurd zfK h,fun d acc ts p _ _ h=>absurd zfy h⟩
 |succ f C =>
  refine⟨fun d ts p A hs h=>?_,fun d ts p A hs h=>?_,fun d acc ts p A hs h=>?_⟩
  ·rw[rs]at h |-;have R:=On.uh A
   by_cases hd:d>60
   ·rw[ae hd]at h |-;have hf:=A.fail 9 (tok p 0).at_ aC;refine⟨one 14 (tok p 0).at_ [] [],p.fail 9 (tok p 0).at_,fun g z=>?_,by rw[<-R];exact hf⟩;obtain⟨g,rfl,o,j⟩:=pE z
    have u:cI p d=p.fail 9 (tok p 0).at_:=by grind[cI]
    rw[iS,u,D hf.err]
   ·rw[D hd]at h |-
    have u:cI p d=p:=by grind[cI]
    rcases nb A (s:=[123]) aC with⟨r,H,i⟩|⟨x,H,i⟩
    ·rw[H]at h |-;simp only at h |-
     have V:rs.body p.e f (d+1) [] r≠.error bs:=fun L=>h (by rw[L])
     rw[<-i.2.2]at V;obtain⟨l,q,m,E⟩:=C.body (d+1) [] r (want p [123]) i.1 (by rw[i.2.1];exact hs) V;rw[i.2.2]at E;rw[Et i.2.1]at m;refine⟨one 14 (tok p 0).at_ [] l,want q [125],fun g z=>?_,?_⟩
     ·obtain⟨g,rfl,o,j⟩:=pE z;rw[iS,u,ae A.code,m g aI]
     ·cases he:rs.body p.e f (d+1) [] r with
      |error x=>rw[he]at E;exact i.tr (y:=.error x) E
      |ok y=>have⟨l',r'⟩:=y;rw[he]at E;obtain⟨rfl,E⟩:=E;rw[R];exact⟨rfl,i.tr E⟩
    ·rw[H]at h |-;refine⟨one 14 (tok p 0).at_ [] [],want p [123],fun g z=>?_,i⟩;obtain⟨g,rfl,o,j⟩:=pE z;rw[iS,u,ae A.code];obtain⟨g,rfl⟩:∃g',g=g'+1:=⟨g-1,by omega⟩;rw[iB,D (fun L=>i.err L.1)];simp only;rw[ib i.err]
  ·rw[rs]at h |-;have R:=On.uh A
   by_cases hd:d>60
   ·rw[ae hd]at h |-;have hf:=A.fail 9 (tok p 0).at_ aC;refine⟨T.zero,p.fail 9 (tok p 0).at_,fun g z=>?_,by rw[<-R];exact hf⟩;obtain⟨g,rfl,o,j⟩:=pE z
    have u:cI p d=p.fail 9 (tok p 0).at_:=by grind[cI]
    rw[iS,u,D hf.err]
   ·rw[D hd]at h |-
    have u:cI p d=p:=by grind[cI]
    have hi:∀s:ai,s≠[]->is p 0 s=decide (aE ts 0=s):=fun s hs=>On.is A 0 hs
    have hi1:is p 1 [61]=decide (aE ts 1=[61]):=On.is A 1 aC;simp only at h |-
    by_cases hv:aE ts 0=lV
    ·rw[ae hv]
     have F:is p 0 lV=true:=by grind[is,lV]
     have⟨tv,NZ,_⟩:=ez aC hv;have G:=A;rw[NZ]at G
     have G:=G.next
     rw[show p.e=p.next.e from rfl];have⟨t,q,H,i⟩:=Od (d:=d+1) G.1
     rcases i with⟨r,i,m⟩|⟨x,i,m⟩
     ·rw[i];refine⟨one 13 (tok p 0).at_ (tok p.next 0).s [t],want q [59],fun g z=>?_,by rw[R];rfl,G.tr m⟩;exact zeM
     ·rw[i];refine⟨one 13 (tok p 0).at_ (tok p.next 0).s [t],want q [59],fun g z=>?_,G.tr (y:=.error x) m⟩;exact zeM
    rw[D hv]at h |-
    have F:¬is p 0 lV=true:=by grind[is,lV]
    by_cases hc:aE ts 0=fZ\/aE ts 0=gA
    ·rw[ae hc]at h |-
     have J:is p 0 fZ=true\/is p 0 gA=true:=by grind[is,fZ,gA]
     obtain⟨tv,NZ⟩:∃t,ts=t::ts.tail:=by
      rcases hc with hc|hc
      ·have⟨t,H,_⟩:=ez aC hc;grind
      ·have⟨t,H,_⟩:=ez aC hc;grind
     have G:=A;rw[NZ]at G
     have G:=G.next
     have NP:(if is p 0 fZ=true then(9:Int)else 10)=if aE ts 0=fZ then 9 else 10:=by grind[is]
     have⟨c,q,H,i⟩:=N7 (d:=d+1) (a:=[40]) (b:=[41]) G.1 aC aC
     rcases i with⟨r,i,m⟩|⟨x,i,m⟩
     ·rw[show p.next.e=p.e from rfl]at i;rw[i]at h |-;simp only at h |-;have m:=G.tr m
      have V:rs p.e f (.block (d+1)) r≠.error bs:=fun L=>h (by rw[L])
      rw[<-m.2.2]at V;obtain⟨b,q2,E,N⟩:=C.block (d+1) r (want q [41]) m.1 (by rw[m.2.1];exact hs) V;rw[m.2.2]at N;rw[Et m.2.1]at E
      cases he:rs p.e f (.block (d+1)) r with
      |error x =>
       rw[he]at N;refine⟨one (if is p 0 fZ=true then 9 else 10) (tok p 0).at_ [] [c,b],q2,fun g z=>?_,m.tr (y:=.error x) N⟩;obtain⟨g,rfl,o,j⟩:=pE z;rw[iS,u,ae A.code,D F,ae J,H g j];simp only;rw[E g o];simp only;rw[D (fun L=>cv.err N L.2.1)]
      |ok y =>
       have⟨b',r2⟩:=y;rw[he]at N h;obtain⟨rfl,N⟩:=N;simp only at h |-;have N:=m.tr N;have zr:is q2 0 iv=decide (aE r2 0=iv):=On.is N.1 0 aC
       by_cases S0:aE ts 0=fZ
       ·rw[ae S0]at h NP |-
        have WX:is p 0 fZ=true:=by grind
        by_cases sa:aE r2 0=iv
        ·rw[ae sa]at h |-;have⟨te,AX,_⟩:=ez aC sa;have O:=N.1;rw[AX]at O
         have O:=N.tr O.next
         have V:rs p.e f (.block (d+1)) r2.tail≠.error bs:=fun L=>h (by rw[L])
         rw[<-O.2.2]at V
         obtain⟨b2,q3,h6,h7⟩:=C.block (d+1) r2.tail q2.next O.1 (by rw[O.2.1];exact hs) V
         rw[O.2.2]at h7;rw[Et O.2.1]at h6;refine⟨one 9 (tok p 0).at_ [] [c,b,b2],q3,fun g z=>?_,?_⟩
         ·obtain⟨g,rfl,o,j⟩:=pE z;rw[iS,u,ae A.code,D F,ae J,H g j];simp only;rw[E g o];simp only;rw[ae ⟨WX,N.1.code,by grind⟩,h6 g o]
         ·cases xO:rs p.e f (.block (d+1)) r2.tail with
          |error x=>rw[xO]at h7;exact O.tr (y:=.error x) h7
          |ok y=>have⟨b3,r3⟩:=y;rw[xO]at h7;obtain⟨rfl,h7⟩:=h7;exact⟨by rw[R],O.tr h7⟩
        ·rw[D sa];exact zbA
       ·rw[D S0]at NP |-
        have WX:¬is p 0 fZ=true:=by grind
        exact zbA
     ·rw[show p.next.e=p.e from rfl]at i;rw[i]at h |-;have m:=G.tr (y:=.error x) m;refine⟨one (if is p 0 fZ=true then 9 else 10) (tok p 0).at_ [] [c,one 14 (tok (want q [41]) 0).at_ [] []],want q [41],fun g z=>?_,m⟩;obtain⟨g,rfl,o,j⟩:=pE z;rw[iS,u,ae A.code,D F,ae J,H g j];simp only;rw[QP m.err aI];simp only;rw[D (fun L=>m.err L.2.1)]
    rw[D hc]at h |-
    have J:¬(is p 0 fZ=true\/is p 0 gA=true):=by grind[is,fZ,gA]
    by_cases hr:aE ts 0=gJ
    ·rw[ae hr]
     have Q:is p 0 gJ=true:=by grind[is,gJ]
     have⟨tv,NZ,_⟩:=ez aC hr;have G:=A;rw[NZ]at G
     have G:=G.next
     have⟨t,q,H,i⟩:=Ln (d:=d+1) (b:=[59]) G.1 aC;rw[show p.next.e=p.e from rfl]at i;refine⟨one 11 (tok p 0).at_ [] [t],want q [59],fun g z=>?_,?_⟩
     ·obtain⟨g,rfl,o,j⟩:=pE z;rw[iS,u,ae A.code,D F,D J,ae Q,H g j]
     ·rcases i with⟨r,r',i,m,E⟩|⟨r,x,i,m,E⟩|⟨x,i,E⟩
      ·rw[i];simp only;rw[m];exact⟨by rw[R],G.tr E⟩
      ·rw[i];simp only;rw[m];exact zeJ
      ·rw[i];exact zeJ
    rw[D hr]at h |-
    have Q:¬is p 0 gJ=true:=by grind[is,gJ]
    cases ts with
    |nil =>
     have ht:tok p 0=⟨0,0,[],p.e⟩:=by grind[On.tok]
     have B:¬((tok p 0).ab=2/\is p 1 [61]=true):=fun hx=>by grind
     obtain⟨t,q,H,i⟩:=Lo (d:=d+1) A (aQ _)
     rcases i with⟨r,i,m⟩|⟨x,i,m⟩
     ·exact zeQ
     ·have S:¬xa p q t:=fun L=>m.err L.2.1
      refine⟨one 12 (tok p 0).at_ [] [t],want q [59],fun g z=>?_,by unfold simple;rw[i,ib m.err];exact m⟩;exact za6
    |cons a r0 =>
     simp only[simple]at h |-
     have ht:tok p 0=a:=by grind[On.tok]
     by_cases W:a.ab=2/\aE (a::r0) 1=[61]
     ·rw[ae W];have B:(tok p 0).ab=2/\is p 1 [61]=true:=⟨by grind,by grind⟩;have⟨t,q,H,i⟩:=Od (d:=d+1) A
      rcases i with⟨r,i,m⟩|⟨x,i,m⟩
      ·rw[i];refine⟨one 7 (tok p 0).at_ (tok p 0).s [t],want q [59],fun g z=>?_,by grind,m⟩;exact zdT
      ·rw[i];refine⟨one 7 (tok p 0).at_ (tok p 0).s [t],want q [59],fun g z=>?_,m⟩;exact zdT
     ·rw[D W]
      have B:¬((tok p 0).ab=2/\is p 1 [61]=true):=fun hx=>W ⟨by grind,by grind⟩
      obtain⟨t,q,H,i⟩:=Lo (d:=d+1) A (aQ _)
      rcases i with⟨r,i,m⟩|⟨x,i,m⟩
      ·rw[i];simp only;have zr:is q 0 [61]=decide (aE r 0=[61]):=On.is m.1 0 aC
       by_cases M:t.n.ab=3/\t.n.at_=a.at_/\aE r 0=[61]
       ·rw[ae M];have⟨a',pre,Xk,Xl⟩:=Np i;cases Xk;have⟨hk2,ab3,w,hw1,N1⟩:=(Xl (On.srt A hs)).2 M.1 M.2.1
        have Zj:uL q=[93]:=by grind[On.last]
        have S:xa p q t:=⟨M.1,m.1.code,Zj,by grind,by grind,by grind⟩;obtain⟨ix,hix⟩:=O7 _ _ _ _ _ _ (fun k d out hj=>by cases hj) i M.1
        have Dz:Go.Xp.a6 p.e [61] r=.ok r.tail:=by grind[a6]
        have hwa:=On.want m.1 (s:=[61]) aC;rw[m.2.2,Dz]at hwa;have G:=m.tr hwa;have⟨v,q2,E,N⟩:=Ln (d:=d+1) (b:=[59]) G.1 aC;rw[G.2.2]at N;rw[G.2.1]at E;refine⟨one 8 (tok p 0).at_ t.n.s [ix,v],want q2 [59],fun g z=>?_,?_⟩
        ·exact za6
        ·unfold Go.Xp.inner;rw[Dz];simp only
         rcases N with⟨r2,r',i,m,E⟩|⟨r2,x,i,m,E⟩|⟨x,i,E⟩
         ·rw[i];simp only;rw[m];exact⟨by grind,G.tr E⟩
         ·rw[i];simp only;rw[m];exact zeJ
         ·rw[i];exact zeJ
       ·rw[D M]
        have S:¬xa p q t:=fun L=>M ⟨L.1,by rw[<-ht];exact L.2.2.2.1,by have:=L.2.2.2.2.2;grind⟩
        refine⟨one 12 (tok p 0).at_ [] [t],want q [59],fun g z=>?_,?_⟩
        ·exact za6
        ·rcases nb m.1 (s:=[59]) aC with⟨r',E,N⟩|⟨x,E,N⟩
         ·rw[m.2.2]at E;rw[E];exact⟨by rw[ht],m.tr N⟩
         ·rw[m.2.2]at E;rw[E];exact m.tr (y:=.error x) N
      ·rw[i]
       have S:¬xa p q t:=fun L=>m.err L.2.1
       refine⟨one 12 (tok p 0).at_ [] [t],want q [59],fun g z=>?_,by rw[ib m.err];exact m⟩;exact za6
  ·rw[rs.body]at h |-;have hi:is p 0 [125]=decide (aE ts 0=[125]):=On.is A 0 aC
   by_cases V:aE ts 0=[125]
   ·rw[ae V];have hm:=On.want A (s:=[125]) aC;unfold Go.Xp.a6 at hm;rw[ae V]at hm;refine⟨acc,p,fun g z=>?_,rfl,hm⟩;obtain⟨g,rfl,o,j⟩:=pE z
    grind[iB]
   ·rw[D V]at h |-
    have FT:rs p.e f (.stmt d) ts≠.error bs:=fun L=>h (by rw[L])
    have⟨a,q,H,i⟩:=C.stmt d ts p A hs FT;have hc:p.code=0/\is p 0 [125]=false:=⟨A.code,by grind⟩
    cases he:rs p.e f (.stmt d) ts with
    |error x =>
     rw[he]at i h;refine⟨acc++[a],q,fun g z=>?_,by rw[ib (cv.err i)];exact i⟩;obtain⟨g,rfl,o,j⟩:=pE z;rw[iB,ae hc,H g o];simp only;obtain⟨g,rfl⟩:∃g',g=g'+1:=⟨g-1,by omega⟩;rw[iB,D (fun L=>cv.err i L.1)]
    |ok y =>
     have⟨a',r⟩:=y;rw[he]at i h;obtain⟨rfl,i⟩:=i;simp only at h |-;rw[<-i.2.2]at h |-;obtain⟨l,q3,m,E⟩:=C.body d (acc++[a]) r q i.1 (by rw[i.2.1];exact hs) h;rw[Et i.2.1]at m;refine⟨l,q3,fun g z=>?_,ja.tr i E⟩;obtain⟨g,rfl,o,j⟩:=pE z
     grind[iB]
section
variable{p q:RS}
theorem sj{k:Nat}(h:(tok p k).ab≠0):p.i+k<p.l.length:=by
 grind[tok,Nat.lt_of_not_le,List.getElem?_eq_none_iff]
theorem is_lt{k:Nat}{s:ai}(h:is p k s=true):p.i+k<p.l.length:=by
 simp_all[is,aU,sj]
theorem kH{s:ai}(h:is p 0 s=true):p.to p.next:=cU (is_lt h)
theorem xi(A:p.ok):p.to (ly p):=mV A _ _
theorem dh(A:p.ok)(s:ai):p.to (want p s):=by
 grind[kH,xi,jR,RS.to,want]
theorem jv(A:p.ok):p.to (bV p):=by
 unfold bV;split
 ·split
  ·rename_i h;split
   ·grind[mV]
   ·exact cU (sj (k:=0) aI)
  ·exact xi A
 ·exact jR A
theorem uU(A:p.ok)(d:Nat):p.to (cI p d):=by
 grind[mV,jR,RS.to,cI]
theorem px{d:Nat}(h:(cI p d).code=0):cI p d=p:=by
 unfold cI at h |-
 grind[RS.fail]
end
def ki:∀(f:Nat),(∀j p t q,p.ok->iE f j p=some (t,q)->p.to q)/\(∀d H p l q,p.ok->iA f d H p=some (l,q)->p.to q)
 |0=>⟨fun j p t q _ h=>by simp[iE]at h,fun d H p l q _ h=>by simp[iA]at h⟩
 |f+1=>by
  have⟨M,v⟩:=ki f;refine⟨fun j p t q A h=>?_,fun d H p l q A h=>?_⟩
  ·cases j with
   |expr d =>
    rw[iE]at h;have F:=uU A d;split at h
    ·exact F.trans (M _ _ _ _ (F.ok A) h)
    grind
   |level k d =>
    rw[iE]at h;split at h
    ·grind
    ·split at h
     ·cases h
     ·rename_i out V R;have:=M _ _ _ _ A R;exact zcq
   |loop k d out =>
    rw[iE]at h;split at h
    ·rename_i n;have T:=cU (p:=p) (sj (k:=0) aI);split at h
     ·cases h
     ·exact zeC
    grind[jR]
   |operand d =>
    rw[iE]at h;split at h
    ·split at h
     ·rename_i n
      have T:p.to p.next:=by grind[kH]
      split at h
      ·cases h
      ·rename_i a V R
       cases h;exact T.trans (M _ _ _ _ (T.ok A) R)
     ·split at h
      ·rename_i o
       cases h;exact cU (sj (k:=0) aI)
      ·split at h
       ·rename_i n;have T:=kH n;split at h
        ·cases h
        ·rename_i a V R;have:=T.trans (M _ _ _ _ (T.ok A) R)
         cases h;exact zbC
       ·have T:=jv A;split at h
        ·split at h
         ·rename_i n;have m:=T.trans (kH n);split at h
          ·cases h
          ·rename_i a V R;have:=m.trans (M _ _ _ _ (m.ok A) R)
           cases h;exact zbC
         ·split at h
          ·rename_i n;have m:=T.trans (kH n);split at h
           ·cases h
           ·rename_i a V R
            cases h;exact m.trans (v _ _ _ _ _ (m.ok A) R)
          grind
        grind
    grind[uU]
  ·rw[iA]at h;split at h
   ·have T:p.to (if H.length=0 then p else want p [44]):=by
     grind[jR,dh]
    split at h
    ·cases h
    ·exact zcR
   grind[dh]
def EC:∀(f:Nat),(∀j p t q,p.ok->iS f j p=some (t,q)->p.to q)/\(∀d H p l q,p.ok->iB f d H p=some (l,q)->p.to q)
 |0=>⟨fun j p t q _ h=>by simp[iS]at h,fun d H p l q _ h=>by simp[iB]at h⟩
 |f+1=>by
  have⟨M,w⟩:=EC f;have i:=(ki f).1;refine⟨fun j p t q A h=>?_,fun d H p l q A h=>?_⟩
  ·cases j with
   |block d =>
    rw[iS]at h;split at h
    ·have G:=dh A [123];split at h
     ·cases h
     ·rename_i l V R;have:=G.trans (w _ _ _ _ _ (G.ok A) R)
      cases h;exact zbC
    grind[uU]
   |stmt d =>
    rw[iS]at h;split at h
    ·split at h
     ·rename_i u;have T:=kH u;have O:=T.trans (jv (T.ok A));have s:=O.trans (dh (O.ok A) [61]);split at h
      ·cases h
      ·rename_i e V R;have:=s.trans (i _ _ _ _ (s.ok A) R)
       cases h;exact zbC
     ·split at h
      ·rename_i u
       have T:p.to p.next:=by grind[kH]
       have s:=T.trans (dh (T.ok A) [40]);split at h
       ·cases h
       ·rename_i e V R;have:=s.trans (i _ _ _ _ (s.ok A) R);have n:=this.trans (dh (this.ok A) [41]);split at h
        ·cases h
        ·rename_i b S z;have C:=n.trans (M _ _ _ _ (n.ok A) z);split at h
         ·rename_i m;have k:=C.trans (kH m.2.2);split at h
          ·cases h
          ·rename_i B J Q
           cases h;exact k.trans (M _ _ _ _ (k.ok A) Q)
         grind
      ·split at h
       ·rename_i u;have T:=kH u;split at h
        ·cases h
        ·rename_i e V R;have:=T.trans (i _ _ _ _ (T.ok A) R)
         cases h;exact zbC
       ·split at h
        ·have O:=jv A;have s:=O.trans (dh (O.ok A) [61]);split at h
         ·cases h
         ·rename_i e V R;have:=s.trans (i _ _ _ _ (s.ok A) R)
          cases h;exact zbC
        ·split at h
         ·cases h
         ·rename_i e V R;have hx:=i _ _ _ _ A R;split at h
          ·have T:=hx.trans (dh (hx.ok A) [61]);split at h
           ·rename_i a r v S o N;have:=T.trans (i _ _ _ _ (T.ok A) N)
            cases h;exact zbC
           ·cases h
          ·cases h;exact hx.trans (dh (hx.ok A) _)
    grind[uU]
  ·rw[iB]at h;split at h
   ·split at h
    ·cases h
    ·rename_i a V R;have:=M _ _ _ _ A R;exact this.trans (w _ _ _ _ _ (this.ok A) h)
   grind[jR]
theorem vQ(p:RS):p.next.i=p.i+1:=rfl
def Xt:∀(f:Nat)j p t q,p.ok->iE f j p=some (t,q)->q.code=0->(∀k d out,j≠.loop k d out)->p.i<q.i:=by
 intro f
 induction f with
 |zero=>grind[iE]
 |succ f O =>
  intro j p t q A h n G
  cases j with
  |loop k d out=>grind
  |expr d =>
   grind[iE,px]
  |level k d =>
   rw[iE]at h;split at h
   ·grind
   ·split at h
    ·cases h
    ·rename_i out V R;have F:=(ki f).1 _ _ _ _ A R
     have N:V.code=0:=by
      by_cases m:V.code=0
      ·exact m
      ·cases f with
       |zero=>simp[iE]at h
       |succ f =>
        simp_all[iE,D]
     have M:=O _ _ _ _ A R N (fun k d out h=>by cases h);have v:=(ki f).1 _ _ _ _ (F.ok A) h;have:=v.2.2.2;omega
  |operand d =>
   rw[iE]at h;split at h
   ·split at h
    ·rename_i m
     have T:p.to p.next:=by grind[kH]
     split at h
     ·cases h
     ·rename_i a V R;cases h;have:=((ki f).1 _ _ _ _ (T.ok A) R).2.2.2
      grind[vQ]
    ·split at h
     ·grind[vQ]
     ·split at h
      ·rename_i m;have T:=kH m;split at h
       ·cases h
       ·rename_i a V R;cases h;have M:=(ki f).1 _ _ _ _ (T.ok A) R;have v:=(dh ((M.ok (T.ok A))) [41]).2.2.2;have:=M.2.2.2
        grind[vQ]
      ·have T:=jv A;split at h
       ·rename_i C
        have N:p.i<(bV p).i:=by
         unfold bV at C |-;split at C
         ·rename_i s;split at C
          ·rename_i v;split at C
           ·unfold RS.fail at C;grind
           simp_all[ae,D,vQ]
          ·unfold ly RS.fail at C;grind
         omega
        split at h
        ·rename_i m;have l:=T.trans (kH m);split at h
         ·cases h
         ·rename_i a V R;cases h;have M:=(ki f).1 _ _ _ _ (l.ok A) R;have v:=(dh ((M.ok (l.ok A))) [93]).2.2.2;have:=M.2.2.2
          grind[vQ]
        ·split at h
         ·rename_i m;have l:=T.trans (kH m);split at h
          ·cases h
          ·rename_i a V R;cases h;have:=((ki f).2 _ _ _ _ _ (l.ok A) R).2.2.2
           grind[vQ]
         grind
       grind
   grind
end Go.Im
namespace Go.Xp
mutual
def bc:T->Nat
 |.mk _ l=>aR l+1
def aR:List T->Nat
 |[]=>0
 |t::r=>bc t+aR r
end
def bQ:Nat->List T->List Int
 |_,[]=>[]
 |n,t::r=>(n:Int)::bQ (n+bc t) r
mutual
def jC:Nat->T->List Nd
 |n,.mk E l=>⟨E.ab,E.at_,E.n,E.s,bQ (n+1) l⟩::ey (n+1) l
def ey:Nat->List T->List Nd
 |_,[]=>[]
 |n,t::r=>jC n t++ey (n+bc t) r
end
theorem fC(t:T):bc t=aR t.au+1:=by cases t;rfl
theorem Nt(n:Nat)(t:T):jC n t=⟨t.n.ab,t.n.at_,t.n.n,t.n.s,bQ (n+1) t.au⟩::ey (n+1) t.au:=by cases t;rfl
section
variable(a b:List T)
theorem o7:aR (a++b)=aR a+aR b:=by
 induction a with
 |nil=>simp[aR]
 |cons t a O=>grind[aR]
theorem wO(n:Nat):bQ n (a++b)=bQ n a++bQ (n+aR a) b:=by
 induction a generalizing n with
 |nil=>rfl
 |cons t a O=>grind[bQ,aR]
theorem yC(n:Nat):ey n (a++b)=ey n a++ey (n+aR a) b:=by
 induction a generalizing n with
 |nil=>rfl
 |cons t a O=>grind[ey,aR]
end
theorem db(a:List T)(n:Nat):(bQ n a).length=a.length:=by
 induction a generalizing n with
 |nil=>rfl
 |cons t a O=>simp[bQ,O]
def Nu:∀(N:Nat),(∀t:T,bc t<=N->∀n,(jC n t).length=bc t)/\(∀l:List T,aR l<=N->∀n,(ey n l).length=aR l):=by
 intro N
 induction N with
 |zero =>
  refine⟨fun t h=>by grind[fC],fun l h n=>?_⟩
  cases l with
  |nil=>rfl
  |cons t l=>rw[aR,fC]at h;omega
 |succ N O =>
  have M:∀t:T,bc t<=N+1->∀n,(jC n t).length=bc t:=fun t h n=>by
   grind[fC,Nt,length_cons]
  refine⟨M,fun l=>?_⟩
  induction l with
  |nil=>intro _ n;rfl
  |cons t l d =>
   grind[aR,ey]
theorem Ut(t:T)(n:Nat):(jC n t).length=bc t:=(Nu (bc t)).1 t (aQ _) n
def tg(l:List T)(n:Nat):(ey n l).length=aR l:=(Nu (aR l)).2 l (aQ _) n
def rS(l:List T)(k:Nat):aR (l.take k)<=aR l:=by
 grind[o7,List.take_append_drop]
def vd{l:List T}{k:Nat}{t:T}(h:l[k]?=some t):aR (l.take (k+1))=aR (l.take k)+bc t:=by
 grind[dc,o7,aR,bc]
theorem gm(l:List T):l.length<=aR l:=by
 induction l with
 |nil=>simp
 |cons t l O=>rw[aR,fC,length_cons];omega
open Go.Sp (bY fX)
abbrev K:=Int × Int × ai
def kf(t:Tok):K:=(t.ab,t.n,t.s)
abbrev kS(s:ai):K:=(3,0,s)
abbrev kN(s:ai):K:=(2,0,s)
abbrev kI(n:Int):K:=(1,n,[])
inductive E where
 |num (n:Int)
 |name (s:ai)
 |at_ (s:ai) (a:E)
 |call (s:ai) (l:List E)
 |un (s:ai) (a:E)
 |bin (s:ai) (a b:E)
def eX(s:ai):Nat:=(levels.findIdx? fun l=>l.contains s).getD 9
def E.lv:E->Nat
 |.bin s _ _=>eX s
 |_=>9
def brk(lv k:Nat)(x:List K):List K:=if lv<k then kS [40]::(x++[kS [41]])else x
mutual
def E.tk:E->List K
 |.num n=>[kI n]
 |.name s=>[kN s]
 |.at_ s a=>kN s::kS [91]::(a.tk++[kS [93]])
 |.call s l=>kN s::kS [40]::(E.nP l++[kS [41]])
 |.un s a=>kS s::brk a.lv 9 a.tk
 |.bin s a b=>brk a.lv (eX s) a.tk++kS s::brk b.lv (eX s+1) b.tk
def E.nP:List E->List K
 |[]=>[]
 |a::l=>a.tk++E.qM l
def E.qM:List E->List K
 |[]=>[]
 |a::l=>kS [44]::(a.tk++E.qM l)
end
mutual
def E.tree:E->T
 |.num n=>.mk ⟨1,0,n,[],[]⟩ []
 |.name s=>.mk ⟨2,0,0,s,[]⟩ []
 |.at_ s a=>.mk ⟨3,0,0,s,[]⟩ [a.tree]
 |.call s l=>.mk ⟨4,0,0,s,[]⟩ (E.aM l)
 |.un s a=>.mk ⟨5,0,0,s,[]⟩ [a.tree]
 |.bin s a b=>.mk ⟨6,0,0,s,[]⟩ [a.tree,b.tree]
def E.aM:List E->List T
 |[]=>[]
 |a::l=>a.tree::E.aM l
end
def II(lv k d:Nat)(f:Nat->Bool):Bool:=if lv<k then decide (d<=60)&&decide (d+1<=60)&&f (d+2)else f d
mutual
def E.fit:E->Nat->Bool
 |.num _,d=>decide (d<=60)
 |.name _,d=>decide (d<=60)
 |.at_ _ a,d=>decide (d<=60)&&decide (d+1<=60)&&a.fit (d+2)
 |.call _ l,d=>decide (d<=60)&&E.fits l (d+1)
 |.un _ a,d=>decide (d<=60)&&(if a.lv<9 then decide (d+1<=60)&&decide (d+2<=60)&&a.fit (d+3)else a.fit (d+1))
 |.bin s a b,d=>(if a.lv<eX s then decide (d<=60)&&decide (d+1<=60)&&a.fit (d+2)else a.fit d)&&(if b.lv<eX s+1 then decide (d<=60)&&decide (d+1<=60)&&b.fit (d+2)else b.fit d)
def E.fits:List E->Nat->Bool
 |[],_=>true
 |a::l,d=>decide (d<=60)&&a.fit (d+1)&&E.fits l d
end
mutual
def E.ok:E->Bool
 |.num n=>decide (0<=n)&&decide (n<=2147483647)
 |.name s=>bY s
 |.at_ s a=>bY s&&a.ok
 |.call s l=>bY s&&E.dF l
 |.un s a=>(s==[45] ||s==[33] ||s==[126])&&a.ok
 |.bin s a b=>fX s&&a.ok&&b.ok
def E.dF:List E->Bool
 |[]=>true
 |a::l=>a.ok&&E.dF l
end
mutual
def er:T->T
 |.mk n l=>.mk ⟨n.ab,0,n.n,n.s,[]⟩ (bo l)
def bo:List T->List T
 |[]=>[]
 |t::l=>er t::bo l
end
theorem I6(l k:List T):bo (l++k)=bo l++bo k:=by
 induction l with
 |nil=>rfl
 |cons t l O=>simp[bo,O]
theorem td(l:List T):bo l=l.map er:=by
 induction l with
 |nil=>rfl
 |cons t l O=>simp[bo,O]
theorem eS(k a:Int)(s:ai)(l:List T):er (one k a s l)=.mk ⟨k,0,0,s,[]⟩ (bo l):=by rfl
def Ev(e:Int)(j:uq)(ts:List Tok)(x:Rd T):Prop:=∃i,∀f,i<=f->rd e f j ts=x
def Ea(e:Int)(d:Nat)(H:List T)(ts:List Tok)(x:Rd (List T)):Prop:=∃i,∀f,i<=f->rd.args e f d H ts=x
section
variable{e:Int}{d k:Nat}{ts r:List Tok}{t out:T}{x:Rd T}{y:Er}
theorem zk{j o:uq}{ts b:List Tok}{x M:Rd T}(h:Ev e j ts x)(q:∀f,rd e f j ts=x->rd e (f+1) o b=M):Ev e o b M:=by
 have⟨i,s⟩:=h;refine⟨i+1,fun f u=>?_⟩;obtain⟨f,rfl⟩:∃g,f=g+1:=⟨f-1,by omega⟩
 grind
theorem Z5{j o u:uq}{ts b s:List Tok}{x M v:Rd T}(h:Ev e j ts x)(w:Ev e u s v)(q:∀f,rd e f j ts=x->rd e f u s=v->rd e (f+1) o b=M):Ev e o b M:=by
 have⟨i,z⟩:=h;have⟨eg,N⟩:=w;refine⟨i+eg+1,fun f A=>?_⟩;obtain⟨f,rfl⟩:∃g,f=g+1:=⟨f-1,by omega⟩
 grind
def Nk{o:uq}{b:List Tok}{M:Rd T}(q:∀f,rd e (f+1) o b=M):Ev e o b M :=
 ⟨1,fun f s=>by obtain⟨f,rfl⟩:∃g,f=g+1:=⟨f-1,by omega⟩;exact q f⟩
theorem Ev.expr(hd:d<=60)(h:Ev e (.level 0 (d+1)) ts x):Ev e (.expr d) ts x:=zk h fun f h=>by grind[rd]
theorem Ev.Zd(hd:60<d):Ev e (.expr d) ts (.error (9,place e ts)):=Nk fun f=>by grind[rd]
theorem Ev.level(l:k≠9)(h:Ev e (.level (k+1) d) ts (.ok (out,r)))(v:Ev e (.loop k d out) r x):Ev e (.level k d) ts x:=Z5 h v fun f h v=>by grind[rd]
theorem Ev.XE(l:k≠9)(h:Ev e (.level (k+1) d) ts (.error y)):Ev e (.level k d) ts (.error y):=zk h fun f h=>by grind[rd]
theorem Ev.F5(h:Ev e (.operand d) ts x):Ev e (.level 9 d) ts x:=zk h fun f h=>by grind[rd]
theorem Ev.stop(h:aE ts 0 ∉ levels.getD k []):Ev e (.loop k d out) ts (.ok (out,ts)):=Nk fun f=>by
 cases ts with
 |nil=>rw[rd]
 |cons t r =>
  rw[rd,D];rintro⟨v,N⟩
  simp_all[aE,getElem?_cons_zero,dS,if_true]
theorem Ev.go{t:Tok}{b:T}{j:List Tok}(w:t.ab=3)(q:t.s∈levels.getD k [])(h:Ev e (.level (k+1) d) r (.ok (b,j)))(v:Ev e (.loop k d (one 6 t.at_ t.s [out,b])) j x):Ev e (.loop k d out) (t::r) x :=
 Z5 h v fun f h v=>by grind[rd]
theorem Ev.goX{t:Tok}(v:t.ab=3)(q:t.s∈levels.getD k [])(h:Ev e (.level (k+1) d) r (.error y)):Ev e (.loop k d out) (t::r) (.error y) :=
 zk h fun f h=>by grind[rd]
theorem Ev.Sy(hd:60<d):Ev e (.operand d) ts (.error (9,place e ts)):=Nk fun f=>by simp_all[rd.eq_def,ae]
theorem Ev.num{t:Tok}(hd:d<=60)(h:t.ab=1):Ev e (.operand d) (t::r) (.ok (.mk ⟨1,t.at_,t.n,[],[]⟩ [],r)):=Nk fun f=>by
 simp_all[rd.eq_def,D,ae]
theorem Ev.un{t:Tok}{a:T}{j:List Tok}(hd:d<=60)(v:t.ab=3)(q:t.s=[45]\/t.s=[33]\/t.s=[126])(h:Ev e (.operand (d+1)) r (.ok (a,j))):Ev e (.operand d) (t::r) (.ok (one 5 t.at_ t.s [a],j)) :=
 zk h fun f h=>by grind[rd.eq_def]
theorem Ev.unX{t:Tok}(hd:d<=60)(v:t.ab=3)(q:t.s=[45]\/t.s=[33]\/t.s=[126])(h:Ev e (.operand (d+1)) r (.error y)):Ev e (.operand d) (t::r) (.error y) :=
 zk h fun f h=>by grind[rd]
theorem Ev.par{t u:Tok}{a:T}{j:List Tok}(hd:d<=60)(v:t.ab=3)(q:t.s=[40])(m:u.ab=3)(b:u.s=[41])(h:Ev e (.expr (d+1)) r (.ok (a,u::j))):Ev e (.operand d) (t::r) (.ok (a,j)) :=
 zk h fun f h=>by
  rw[rd.eq_def];simp only;rw[D aI,ae v,D ze3,ae q,h];simp only[a6,aE,getElem?_cons_zero,dS,m,if_true,b,tail_cons]
theorem Ev.abn{t:Tok}(hd:d<=60)(v:t.ab=3)(q:t.s=[40])(h:Ev e (.expr (d+1)) r (.error y)):Ev e (.operand d) (t::r) (.error y) :=
 zk h fun f h=>by grind[rd]
theorem th{t:Tok}(v:t.ab=2)(T:t.s.length<=12):name e (t::r)=.ok (t.s,r):=by
 simp only[name,v,if_true];grind
theorem Ev.name{t:Tok}(hd:d<=60)(v:t.ab=2)(T:t.s.length<=12)(A:aE r 0≠[91])(W:aE r 0≠[40]):Ev e (.operand d) (t::r) (.ok (one 2 t.at_ t.s [],r)):=Nk fun f=>by
 simp_all[rd.eq_def,D,th]
def Ev.ix{t u w:Tok}{a:T}{j:List Tok}(hd:d<=60)(v:t.ab=2)(V:t.s.length<=12)(m:u.ab=3)(b:u.s=[91])(R:w.ab=3)(J:w.s=[93])(h:Ev e (.expr (d+1)) r (.ok (a,w::j))):Ev e (.operand d) (t::u::r) (.ok (one 3 t.at_ t.s [a],j)) :=
 zk h fun f h=>by
  rw[rd.eq_def];simp only;rw[D aI,D aI,D aI,th v V];simp only;rw[ae (by simp only[aE,getElem?_cons_zero,dS,m,if_true,b]),tail_cons,h];simp only[a6,aE,getElem?_cons_zero,dS,R,if_true,J,tail_cons]
theorem Ev.ixX{t u:Tok}(hd:d<=60)(v:t.ab=2)(T:t.s.length<=12)(m:u.ab=3)(b:u.s=[91])(h:Ev e (.expr (d+1)) r (.error y)):Ev e (.operand d) (t::u::r) (.error y) :=
 zk h fun f h=>by
  rw[rd.eq_def];simp only;rw[D aI,D aI,D aI,th v T];simp only;rw[ae (by simp only[aE,getElem?_cons_zero,dS,m,if_true,b]),tail_cons,h]
theorem Ev.call{t u:Tok}{l:List T}{j:List Tok}(hd:d<=60)(w:t.ab=2)(V:t.s.length<=12)(m:u.ab=3)(b:u.s=[40])(h:Ea e (d+1) [] r (.ok (l,j))):Ev e (.operand d) (t::u::r) (.ok (one 4 t.at_ t.s l,j)):=by
 have⟨i,v⟩:=h;refine⟨i+1,fun f z=>?_⟩;obtain⟨f,rfl⟩:∃g,f=g+1:=⟨f-1,by omega⟩
 have q:aE (u::r) 0=[40]:=by simp only[aE,getElem?_cons_zero,dS,m,if_true,b]
 simp_all[rd.eq_def,D,th,ae,tail_cons]
theorem Ev.Y1{t u:Tok}(hd:d<=60)(w:t.ab=2)(T:t.s.length<=12)(m:u.ab=3)(b:u.s=[40])(h:Ea e (d+1) [] r (.error y)):Ev e (.operand d) (t::u::r) (.error y):=by
 have⟨i,v⟩:=h;refine⟨i+1,fun f z=>?_⟩;obtain⟨f,rfl⟩:∃g,f=g+1:=⟨f-1,by omega⟩
 have q:aE (u::r) 0=[40]:=by simp only[aE,getElem?_cons_zero,dS,m,if_true,b]
 simp_all[rd.eq_def,D,th,ae,tail_cons]
theorem Ea.nil{u:Tok}{H:List T}(m:u.ab=3)(b:u.s=[41]):Ea e d H (u::r) (.ok (H,r)):=⟨1,fun f v=>by
 obtain⟨f,rfl⟩:∃g,f=g+1:=⟨f-1,by omega⟩
 have q:aE (u::r) 0=[41]:=by simp only[aE,getElem?_cons_zero,dS,m,if_true,b]
 grind[rd.args]⟩
theorem Ea.first{a:T}{j:List Tok}{x:Rd (List T)}(q:aE r 0≠[41])(h:Ev e (.expr d) r (.ok (a,j)))(v:Ea e d [a] j x):Ea e d [] r x:=by
 have⟨i,s⟩:=h;have⟨eg,M⟩:=v;refine⟨i+eg+1,fun f u=>?_⟩;obtain⟨f,rfl⟩:∃g,f=g+1:=⟨f-1,by omega⟩
 grind[rd.args]
theorem Ea.Ww{a:T}(q:aE r 0≠[41])(h:Ev e (.expr d) r (.error y)):Ea e d [] r (.error y):=by
 have⟨i,s⟩:=h;refine⟨i+1,fun f u=>?_⟩;obtain⟨f,rfl⟩:∃g,f=g+1:=⟨f-1,by omega⟩
 grind[rd.args]
theorem Ea.more{u:Tok}{H:List T}{a:T}{j:List Tok}{x:Rd (List T)}(ha:H≠[])(m:u.ab=3)(b:u.s=[44])(h:Ev e (.expr d) r (.ok (a,j)))(v:Ea e d (H++[a]) j x):Ea e d H (u::r) x:=by
 have⟨i,w⟩:=h;have⟨eg,M⟩:=v;refine⟨i+eg+1,fun f z=>?_⟩;obtain⟨f,rfl⟩:∃g,f=g+1:=⟨f-1,by omega⟩
 have q:aE (u::r) 0=[44]:=by simp only[aE,getElem?_cons_zero,dS,m,if_true,b]
 rw[rd.args,D ze3,D ha,a6,ae q];grind
theorem Ea.ZD{u:Tok}{H:List T}(ha:H≠[])(m:u.ab=3)(b:u.s=[44])(h:Ev e (.expr d) r (.error y)):Ea e d H (u::r) (.error y):=by
 have⟨i,v⟩:=h;refine⟨i+1,fun f w=>?_⟩;obtain⟨f,rfl⟩:∃g,f=g+1:=⟨f-1,by omega⟩
 have q:aE (u::r) 0=[44]:=by simp only[aE,getElem?_cons_zero,dS,m,if_true,b]
 rw[rd.args,D ze3,D ha,a6,ae q];grind
structure Stop(r:List Tok)(k:Nat):Prop where
 a:aE r 0≠[91]
 b:aE r 0≠[40]
 c:∀j,k<j->aE r 0 ∉ levels.getD j []
theorem Stop.mono{k':Nat}(h:Stop r k)(l:k<=k'):Stop r k':=⟨h.a,h.b,fun j G=>h.c j aI⟩
theorem Ev.lift{m:Nat}(h:Ev e (.level m d) ts (.ok (t,r)))(G:m<=9)(q:Stop r k):∀n,m=k+1+n->Ev e (.loop k d t) r x->Ev e (.level k d) ts x:=by
 intro n
 induction n generalizing m with
 |zero=>grind[Ev.level]
 |succ n O =>
  intro R v;exact O (m:=k+1+n) (Ev.level aI ze3 (Ev.stop (q.c _ aI))) aI rfl v
theorem Ev.Th{m:Nat}(h:Ev e (.level m d) ts (.error y))(G:m<=9):∀n,m=k+n->Ev e (.level k d) ts (.error y):=by
 intro n
 induction n generalizing m with
 |zero=>grind
 |succ n O=>grind[Ev.XE]
def Rt(e:Int)(k d:Nat)(ts rest:List Tok)(Q:T->Prop)(b:Bool):Prop :=
 (b=true->∃t,Q t/\(k<9->∀x,Ev e (.loop k d t) rest x->Ev e (.level k d) ts x)/\(k=9->Ev e (.level 9 d) ts (.ok (t,rest))))/\(b=false->∃u,Ev e (.level k d) ts (.error (9,u)))
def Ro(e:Int)(d:Nat)(ts rest:List Tok)(Q:T->Prop)(b:Bool):Prop :=
 (b=true->∃t,Q t/\Ev e (.operand d) ts (.ok (t,rest)))/\(b=false->∃u,Ev e (.operand d) ts (.error (9,u)))
def Rx(e:Int)(d:Nat)(ts rest:List Tok)(Q:T->Prop)(b:Bool):Prop :=
 (b=true->∃t,Q t/\Ev e (.expr d) ts (.ok (t,rest)))/\(b=false->∃u,Ev e (.expr d) ts (.error (9,u)))
def Ro.rt{rest:List Tok}{Q:T->Prop}{b:Bool}(h:Ro e d ts rest Q b)(l:k<=9)(q:Stop rest k):Rt e k d ts rest Q b:=by
 refine⟨fun v=>?_,fun v=>?_⟩
 ·have⟨t,M,w⟩:=h.1 v;exact⟨t,M,fun S x z=>Ev.lift (Ev.F5 w) (aQ _) q (8-k) aI z,fun _=>Ev.F5 w⟩
 ·have⟨u,M⟩:=h.2 v;exact⟨u,Ev.Th (Ev.F5 M) (aQ _) (9-k) aI⟩
theorem Rt.down{rest:List Tok}{Q:T->Prop}{b:Bool}{m:Nat}(h:Rt e m d ts rest Q b)(G:m<9)(l:k<=m)(q:Stop rest k):Rt e k d ts rest Q b:=by
 rcases Nat.lt_or_ge k m with N|V
 ·refine⟨fun v=>?_,fun v=>?_⟩
  ·have⟨t,M,w,_⟩:=h.1 v;have z:=w G _ (Ev.stop (q.c m N));exact⟨t,M,fun S x O=>Ev.lift z aI q (m-1-k) aI O,fun i=>by omega⟩
  ·have⟨u,M⟩:=h.2 v;exact⟨u,Ev.Th M aI (m-k) aI⟩
 grind
theorem Rt.rx{rest:List Tok}{Q:T->Prop}{b:Bool}(h:Rt e 0 (d+1) ts rest Q b)(q:aE rest 0 ∉ levels.getD 0 []):Rx e d ts rest Q (decide (d<=60)&&b):=by
 by_cases F:d<=60
 ·have:(decide (d<=60)&&b)=b:=by simp[F]
  rw[this];refine⟨fun v=>?_,fun v=>?_⟩
  ·have⟨t,M,w,_⟩:=h.1 v
   grind[Ev.expr,Ev.stop]
  ·have⟨u,M⟩:=h.2 v
   grind[Ev.expr]
 ·have:(decide (d<=60)&&b)=false:=by simp[F]
  rw[this];exact⟨fun v=>(by cases v),fun _=>⟨_,Ev.Zd aI⟩⟩
end
def Ev.Tn{e:Int}{d:Nat}{ts:List Tok}{x:Rd T}(h:Ev e (.level 9 d) ts x):Ev e (.operand d) ts x:=by
 have⟨i,s⟩:=h;refine⟨i,fun f t=>?_⟩;have:=s (f+1) aI
 grind[rd]
def Ro.Tn{e:Int}{d:Nat}{ts rest:List Tok}{Q:T->Prop}{b:Bool}(h:Rt e 9 d ts rest Q b):Ro e d ts rest Q b :=
 ⟨fun v=>by have⟨t,M,_,w⟩:=h.1 v;exact⟨t,M,(w rfl).Tn⟩,fun v=>by have⟨u,M⟩:=h.2 v;exact⟨u,M.Tn⟩⟩
theorem tl{t:Tok}{r:List Tok}{s:ai}(h:kf t=kS s):aE (t::r) 0=s:=by
 simp only[kf,kS,Prod.mk.injEq]at h;simp only[aE,getElem?_cons_zero,dS,h.1,if_true,h.2.2]
theorem CE{t:Tok}{r:List Tok}(h:t.ab≠3):aE (t::r) 0=[]:=by
 simp only[aE,getElem?_cons_zero,dS,D h]
theorem JJ{j:Nat}(h:9<=j):levels.getD j []=[]:=by
 rw[List.getD_eq_getElem?_getD,getElem?_eq_none (by simpa[levels]using h)];rfl
def D8{r:List Tok}{s:ai}(h:aE r 0=s)(q:s=[]\/s=[41]\/s=[93]\/s=[44]\/s=[59]\/s=[61]):Stop r 0:=by
 have i:∀j,j<9->∀s:ai,(s=[]\/s=[41]\/s=[93]\/s=[44]\/s=[59]\/s=[61])->s ∉ levels.getD j []:=by
  intro j G s q
  have:∀j,j<9->∀s∈([[],[41],[93],[44],[59],[61]]:List ai),s ∉ levels.getD j []:=by decide
  grind
 refine⟨?_,?_,fun j _=>?_⟩
 ·grind
 ·grind
 grind[Nat.lt_or_ge,JJ]
def Bv{r:List Tok}{s:ai}(h:aE r 0=s)(q:s=[]\/s=[41]\/s=[93]\/s=[44]\/s=[59]\/s=[61]):aE r 0 ∉ levels.getD 0 []:=by
 grind[levels]
def sd{s:ai}(h:fX s=true):eX s<9/\s∈levels.getD (eX s) []/\s≠[91]/\s≠[40]/\∀j,eX s<j->s ∉ levels.getD j []:=by
 have G:s∈levels.flatten:=by
  grind[fX,qQ,List.mem_flatten]
 have c:∀s∈levels.flatten,eX s<9/\s∈levels.getD (eX s) []/\s≠[91]/\s≠[40]/\∀j,j<9->eX s<j->s ∉ levels.getD j []:=by decide
 grind[Nat.lt_or_ge,JJ]
def lp(a:E):Prop:=∀(e:Int)(k d:Nat)(B l:List Tok),k<=a.lv->a.ok=true->B.map kf=a.tk->Stop l k->Rt e k d (B++l) l (fun t=>er t=a.tree) (a.fit d)
def YO(a:E):Prop:=∀(e:Int)(k d:Nat)(B l:List Tok),k<=9->a.ok=true->B.map kf=brk a.lv k a.tk->Stop l k->Rt e k d (B++l) l (fun t=>er t=a.tree) (II a.lv k d a.fit)
section
variable{ts:List Tok}
theorem map_cons{k:K}{l:List K}(h:ts.map kf=k::l):∃t r,ts=t::r/\kf t=k/\r.map kf=l:=List.map_eq_cons_iff.1 h
theorem ej{l V:List K}(h:ts.map kf=l++V):∃a b,ts=a++b/\a.map kf=l/\b.map kf=V:=List.map_eq_append_iff.1 h
theorem jz{k:K}(h:ts.map kf=[k]):∃t,ts=[t]/\kf t=k:=by
 simp_all
end
theorem eW{t:Tok}{s:ai}(h:kf t=kS s):t.ab=3/\t.s=s:=by simp_all[kf,kS,Prod.mk.injEq]
def qC{t:Tok}{s:ai}(h:kf t=kN s):t.ab=2/\t.s=s:=by simp_all[kf,kN,Prod.mk.injEq]
def QV{t:Tok}{n:Int}(h:kf t=kI n):t.ab=1/\t.n=n:=by simp_all[kf,kI,Prod.mk.injEq]
def lp.rx{a:E}(h:lp a){e:Int}{d:Nat}{ts rest:List Tok}{s:ai}(k:a.ok=true)(o:ts.map kf=a.tk)(q:aE rest 0=s)(C:s=[]\/s=[41]\/s=[93]\/s=[44]\/s=[59]\/s=[61]) :
  Rx e d (ts++rest) rest (fun t=>er t=a.tree) (decide (d<=60)&&a.fit (d+1)):=(h e 0 (d+1) ts rest (bg _) k o (D8 q C)).rx (Bv q C)
def lp.good{a:E}(h:lp a):YO a:=by
 intro e k d H rest m l o q;unfold brk at o;unfold II
 by_cases T:a.lv<k
 ·rw[ae T]at o |-;obtain⟨t,r,rfl,M,w⟩:=map_cons o;obtain⟨A,B,rfl,z,N⟩:=ej w;obtain⟨u,rfl,S⟩:=jz N;have⟨M,L⟩:=eW M;have⟨S,J⟩:=eW S;have hx:=h.rx (e:=e) (d:=d+1) (rest:=u::rest) (s:=[41]) l z (by simp only[aE,getElem?_cons_zero,dS,S,if_true,J]) ze6;refine Ro.rt ?_ m q
  have R:t::(A++[u])++rest=t::(A++u::rest):=by simp
  rw[R]
  by_cases F:d<=60
  ·have:(decide (d<=60)&&decide (d+1<=60)&&a.fit (d+2))=(decide (d+1<=60)&&a.fit (d+1+1)):=by simp[F]
   rw[this];refine⟨fun v=>?_,fun v=>?_⟩
   ·have⟨b,C,O⟩:=hx.1 v
    grind[Ev.par]
   ·have⟨G,C⟩:=hx.2 v
    grind[Ev.abn]
  ·have:(decide (d<=60)&&decide (d+1<=60)&&a.fit (d+2))=false:=by simp[F]
   exact zeg
 ·rw[D T]at o |-;exact h e k d H rest aI l o q
def tj{e:Int}{d:Nat}{ts rest:List Tok}{Q:T->Prop}{b:Bool}(h:d<=60->Ro e d ts rest Q b):Ro e d ts rest Q (decide (d<=60)&&b):=by
 by_cases F:d<=60
 ·grind
 ·have:(decide (d<=60)&&b)=false:=by simp[F]
  exact zeg
theorem nu{s:ai}(h:bY s=true):s.length<=12:=by
 simp_all[Go.Sp.bY,aU,decide_eq_true_eq]
def Qu(n:Int):lp (.num n):=by
 intro e k d ts rest l m o q;obtain⟨t,rfl,M⟩:=jz o;have⟨M,v⟩:=QV M;refine Ro.rt ?_ l q
 have:=tj (e:=e) (d:=d) (ts:=[t]++rest) (rest:=rest) (Q:=fun t=>er t=(E.num n).tree) (b:=true) fun F=>⟨fun _=>⟨_,?_,Ev.num F M⟩,fun h=>by cases h⟩
 ·grind[E.fit]
 ·show er _=_;rw[er,E.tree,v];rfl
def Nb(s:ai):lp (.name s):=by
 intro e k d ts rest l m o q;obtain⟨t,rfl,M⟩:=jz o;have⟨M,v⟩:=qC M;simp only[E.ok]at m;refine Ro.rt ?_ l q
 have:=tj (e:=e) (d:=d) (ts:=[t]++rest) (rest:=rest) (Q:=fun t=>er t=(E.name s).tree) (b:=true) fun F=>⟨fun _=>⟨_,?_,Ev.name F M (by grind[nu]) q.a q.b⟩,fun h=>by cases h⟩
 ·grind[E.fit]
 ·show er _=_;rw[eS,E.tree,v];rfl
def Uc(s:ai){a:E}(C:lp a):lp (.at_ s a):=by
 intro e k d i rest m l o q;simp only[E.ok,aU]at l;rw[E.tk]at o;obtain⟨t,r,rfl,M,G⟩:=map_cons o;obtain⟨u,r,rfl,v,N⟩:=map_cons G;obtain⟨A,B,rfl,T,V⟩:=ej N;obtain⟨w,rfl,R⟩:=jz V;have⟨M,L⟩:=qC M;have⟨v,S⟩:=eW v;have⟨R,J⟩:=eW R
 have b:t.s.length<=12:=by grind[nu]
 have hx:=C.rx (e:=e) (d:=d+1) (rest:=w::rest) (s:=[93]) l.2 T (by simp only[aE,getElem?_cons_zero,dS,R,if_true,J]) ze6;refine Ro.rt ?_ m q
 have W:t::u::(A++[w])++rest=t::u::(A++w::rest):=by simp
 rw[W,E.fit,Bool.and_assoc]
 refine tj fun H=>⟨fun z=>?_,fun z=>?_⟩
 ·have⟨c,F,O⟩:=hx.1 z;exact⟨_,by show er _=_;rw[eS,bo,F,L,E.tree];rfl,Ev.ix H M b v S R J O⟩
 ·have⟨Q,F⟩:=hx.2 z
  grind[Ev.ixX]
def Ue(s:ai){a:E}(C:lp a):lp (.un s a):=by
 intro e k d H l m n o q;simp only[E.ok,aU,Bool.or_eq_true,beq_iff_eq]at n;rw[E.tk]at o;obtain⟨t,r,rfl,M,w⟩:=map_cons o;have⟨M,J⟩:=eW M;have S:k<=9:=m;have B:=Ro.Tn (C.good e 9 (d+1) r l (aQ _) n.2 w (q.mono S));refine Ro.rt ?_ m q
 have N:t.s=[45]\/t.s=[33]\/t.s=[126]:=by grind
 rw[E.fit]
 refine tj fun G=>⟨fun v=>?_,fun v=>?_⟩
 ·have⟨b,F,L⟩:=B.1 v;exact⟨_,by show er _=_;rw[eS,bo,F,J,E.tree];rfl,Ev.un G M N L⟩
 ·have⟨u,F⟩:=B.2 v
  grind[Ev.unX]
def Qr(s:ai){a b:E}(N:lp a)(Cb:lp b):lp (.bin s a b):=by
 intro e k d ts i V v J H;simp only[E.ok,aU]at v;have⟨L,l2,l3,l4,l5⟩:=sd v.1.1;rw[E.tk]at J;obtain⟨A,B,rfl,Q,R⟩:=ej J;obtain⟨t,r,rfl,u,S⟩:=map_cons R;have⟨u,l⟩:=eW u;have o:k<=eX s:=V;have q:=H.mono o;refine Rt.down (m:=eX s) ?_ L o H
 have W:aE (t::(r++i)) 0=s:=by simp only[aE,getElem?_cons_zero,dS,u,if_true,l]
 have G:=N.good e (eX s) d A (t::(r++i)) aI v.1.2 Q ⟨by grind,by grind,fun j hj=>by grind⟩;have O:=Cb.good e (eX s+1) d r i aI v.2 S (q.mono aI)
 have T:A++t::r++i=A++t::(r++i):=by simp
 rw[T,E.fit]
 change Rt e (eX s) d _ i _ (II a.lv (eX s) d a.fit&&II b.lv (eX s+1) d b.fit)
 have F:t.s∈levels.getD (eX s) []:=by grind
 cases n:II a.lv (eX s) d a.fit with
 |false =>
  refine⟨fun z=>(by cases z),fun _=>G.2 n⟩
 |true =>
  have⟨ta,k1,k2,_⟩:=G.1 n
  cases C:II b.lv (eX s+1) d b.fit with
  |false =>
   grind[Ev.goX,Rt,eX,er,E.tree]
  |true =>
   refine⟨fun _=>?_,fun z=>(by cases z)⟩;have⟨M,k3,k4,k5⟩:=O.1 C
   have k6:Ev e (.level (eX s+1) d) (r++i) (.ok (M,i)):=by
    rcases Nat.lt_or_ge (eX s+1) 9 with w|w
    ·exact k4 w _ (Ev.stop (q.c _ aI))
    grind
   exact⟨one 6 t.at_ t.s [ta,M],by show er _=_;rw[eS,bo,bo,bo,k1,k3,l,E.tree],fun _ x hx=>k2 L x (Ev.go u F k6 hx),fun w=>by omega⟩
def SM(k:K):Prop:=k.1=1\/k.1=2\/(k.1=3/\(k.2.2=[45]\/k.2.2=[33]\/k.2.2=[126]\/k.2.2=[40]))
theorem E.head:∀(a:E),a.ok=true->∃k r,a.tk=k::r/\SM k
 |.num n,_=>⟨_,_,rfl,.inl rfl⟩
 |.name s,_=>⟨_,_,rfl,.inr (.inl rfl)⟩
 |.at_ s a,_=>⟨_,_,rfl,.inr (.inl rfl)⟩
 |.call s l,_=>⟨_,_,rfl,.inr (.inl rfl)⟩
 |.un s a,h=>⟨_,_,rfl,.inr (.inr ⟨rfl,by simp only[E.ok,aU,Bool.or_eq_true,beq_iff_eq]at h;grind⟩)⟩
 |.bin s a b,h=>by
  simp only[E.ok,aU]at h;have⟨k,r,M,v⟩:=E.head a h.1.2;rw[E.tk,brk];split
  ·exact⟨_,_,rfl,.inr (.inr ⟨rfl,by simp⟩)⟩
  grind
theorem zW{t:Tok}{r:List Tok}(h:SM (kf t)):aE (t::r) 0=[]\/aE (t::r) 0=[45]\/aE (t::r) 0=[33]\/aE (t::r) 0=[126]\/aE (t::r) 0=[40]:=by
 rcases h with h|h|⟨h,L⟩
 ·grind[CE,kf]
 ·grind[CE,kf]
 ·right
  have:aE (t::r) 0=t.s:=by simp only[kf]at h;simp only[aE,getElem?_cons_zero,dS,h,if_true]
  rw[this];exact L
def yr(l:List E):Prop:=∀(e:Int)(d:Nat)(H:List T)(B m:List Tok)(u:Tok),E.dF l=true->H≠[]->B.map kf=E.qM l->u.ab=3->u.s=[41] ->
 (E.fits l d=true->∃A,bo A=E.aM l/\Ea e d H (B++u::m) (.ok (H++A,m)))/\(E.fits l d=false->∃t,Ea e d H (B++u::m) (.error (9,t)))
def M8:yr []:=by
 intro e d H B l u _ z o m b
 have:B=[]:=by simp_all[E.qM]
 subst this;exact⟨fun _=>⟨[],rfl,by grind[Ea.nil]⟩,fun h=>by simp[E.fits]at h⟩
def Ec{l:List E}{ts rest:List Tok}{u:Tok}(o:ts.map kf=E.qM l)(m:u.ab=3)(b:u.s=[41]):∃s,aE (ts++u::rest) 0=s/\(s=[]\/s=[41]\/s=[93]\/s=[44]\/s=[59]\/s=[61]):=by
 cases l with
 |nil =>
  have:ts=[]:=by simp_all[E.qM]
  subst this;exact⟨[41],by simp only[List.nil_append,aE,getElem?_cons_zero,dS,m,if_true,b],by simp⟩
 |cons a l =>
  grind[E.qM,map_cons,tl]
def Lb{a:E}{l:List E}(Q:lp a)(z:yr l):yr (a::l):=by
 intro e d H q rest u k L o m b;simp only[E.dF,aU]at k;rw[E.qM]at o;obtain⟨t,r,rfl,M,C⟩:=map_cons o;obtain⟨A,B,rfl,G,N⟩:=ej C;have⟨M,J⟩:=eW M;have⟨s,F,w⟩:=Ec (rest:=rest) N m b;have hx:=Q.rx (e:=e) (d:=d) (rest:=B++u::rest) (s:=s) k.1 G F w
 have R:t::(A++B)++u::rest=t::(A++(B++u::rest)):=by simp
 rw[R,E.fits]
 cases c:decide (d<=60)&&a.fit (d+1)with
 |false =>
  refine⟨fun v=>(by simp at v),fun _=>?_⟩;have⟨W,O⟩:=hx.2 c
  grind[Ea.ZD]
 |true =>
  have⟨S,O,V⟩:=hx.1 c;have T:=z e d (H++[S]) B rest u k.2 ze6 N m b;refine⟨fun v=>?_,fun v=>?_⟩
  ·have⟨i,j,n⟩:=T.1 ze3;exact⟨S::i,by grind[bo,E.aM],Ea.more L M J V ze3⟩
  grind[Ea.more]
def Na(s:ai){l:List E}(Cf:∀a r,l=a::r->lp a/\yr r):lp (.call s l):=by
 intro e k d ts rest hk R S hs;simp only[E.ok,aU]at R;rw[E.tk]at S;obtain⟨t,r,rfl,G,h2⟩:=map_cons S;obtain⟨u,r,rfl,c,C⟩:=map_cons h2;obtain⟨A,B,rfl,Q,h6⟩:=ej C;obtain⟨w,rfl,o⟩:=jz h6;have⟨G,H⟩:=qC G;have⟨c,J⟩:=eW c;have⟨o,i⟩:=eW o
 have hl:t.s.length<=12:=by grind[nu]
 refine Ro.rt ?_ hk hs
 have he:t::u::(A++[w])++rest=t::u::(A++w::rest):=by simp
 rw[he,E.fit]
 refine tj fun hd=>?_
 have O:(E.fits l (d+1)=true->∃z,bo z=E.aM l/\Ea e (d+1) [] (A++w::rest) (.ok (z,rest)))/\(E.fits l (d+1)=false->∃j,Ea e (d+1) [] (A++w::rest) (.error (9,j))):=by
  cases l with
  |nil =>
   have:A=[]:=by simp_all[E.nP]
   subst this;exact⟨fun _=>⟨[],rfl,Ea.nil o i⟩,fun h=>by simp[E.fits]at h⟩
  |cons a l =>
   have⟨W,Cl⟩:=Cf a l rfl;have b:=R.2;simp only[E.dF,aU]at b;rw[E.nP]at Q;obtain⟨A,B,rfl,c,C⟩:=ej Q;have⟨s,M,N⟩:=Ec (rest:=rest) C o i;have hx:=W.rx (e:=e) (d:=d+1) (rest:=B++w::rest) (s:=s) b.1 c M N;rw[gS]
   have v:aE (A++(B++w::rest)) 0≠[41]:=by
    have⟨kk,rr,n,F⟩:=E.head a b.1;rw[n]at c;obtain⟨t0,r0,rfl,k3,_⟩:=map_cons c
    grind[zW]
   rw[E.fits]
   cases q:decide (d+1<=60)&&a.fit (d+1+1)with
   |false =>
    refine⟨fun m=>(by simp at m),fun _=>?_⟩;have⟨j,n⟩:=hx.2 q;exact⟨j,Ea.Ww (a:=T.mk ⟨0,0,0,[],[]⟩ []) v n⟩
   |true =>
    have⟨V,n,F⟩:=hx.1 q;have L:=Cl e (d+1) [V] B rest w b.2 ze6 C o i;refine⟨fun m=>?_,fun m=>?_⟩
    ·have⟨z,k3,k4⟩:=L.1 ze3;exact⟨V::z,by grind[bo,E.aM],Ea.first v F k4⟩
    grind[Ea.first]
 refine⟨fun m=>?_,fun m=>?_⟩
 ·have⟨z,n,F⟩:=O.1 m;exact⟨_,by show er _=_;rw[eS,n,H,E.tree],Ev.call hd G hl c J F⟩
 grind[Ev.Y1]
mutual
def core:∀(a:E),lp a
 |.num n=>Qu n
 |.name s=>Nb s
 |.at_ s a=>Uc s (core a)
 |.call s l=>Na s (Y3 l)
 |.un s a=>Ue s (core a)
 |.bin s a b=>Qr s (core a) (core b)
def Y3:∀(l:List E),∀a r,l=a::r->lp a/\yr r
 |[]=>fun a r h=>by cases h
 |a::r=>fun B j h=>by cases h;exact⟨core a,M9 r⟩
def M9:∀(l:List E),yr l
 |[]=>M8
 |a::l=>Lb (core a) (M9 l)
end
inductive S where
 |set (s:ai) (a:E)
 |put (s:ai) (a b:E)
 |if1 (c:E) (b:List S)
 |if2 (c:E) (b b2:List S)
 |while_ (c:E) (b:List S)
 |ret (a:E)
 |do_ (a:E)
 |var (s:ai) (a:E)
mutual
def S.tk:S->List K
 |.set s a=>kN s::kS [61]::(a.tk++[kS [59]])
 |.put s a b=>kN s::kS [91]::(a.tk++kS [93]::kS [61]::(b.tk++[kS [59]]))
 |.if1 c b=>kS fZ::kS [40]::(c.tk++kS [41]::kS [123]::(S.nP b++[kS [125]]))
 |.if2 c b t=>kS fZ::kS [40]::(c.tk++kS [41]::kS [123]::(S.nP b++kS [125]::kS iv::kS [123]::(S.nP t++[kS [125]])))
 |.while_ c b=>kS gA::kS [40]::(c.tk++kS [41]::kS [123]::(S.nP b++[kS [125]]))
 |.ret a=>kS gJ::(a.tk++[kS [59]])
 |.do_ a=>a.tk++[kS [59]]
 |.var s a=>kS lV::kN s::kS [61]::(a.tk++[kS [59]])
def S.nP:List S->List K
 |[]=>[]
 |a::l=>a.tk++S.nP l
end
mutual
def S.tree:S->T
 |.set s a=>.mk ⟨7,0,0,s,[]⟩ [a.tree]
 |.put s a b=>.mk ⟨8,0,0,s,[]⟩ [a.tree,b.tree]
 |.if1 c b=>.mk ⟨9,0,0,[],[]⟩ [c.tree,.mk ⟨14,0,0,[],[]⟩ (S.aM b)]
 |.if2 c b t=>.mk ⟨9,0,0,[],[]⟩ [c.tree,.mk ⟨14,0,0,[],[]⟩ (S.aM b),.mk ⟨14,0,0,[],[]⟩ (S.aM t)]
 |.while_ c b=>.mk ⟨10,0,0,[],[]⟩ [c.tree,.mk ⟨14,0,0,[],[]⟩ (S.aM b)]
 |.ret a=>.mk ⟨11,0,0,[],[]⟩ [a.tree]
 |.do_ a=>.mk ⟨12,0,0,[],[]⟩ [a.tree]
 |.var s a=>.mk ⟨13,0,0,s,[]⟩ [a.tree]
def S.aM:List S->List T
 |[]=>[]
 |a::l=>a.tree::S.aM l
end
def qy(a:E)(d:Nat):Bool:=decide (d<=60)&&a.fit (d+1)
mutual
def S.fit:S->Nat->Bool
 |.set _ a,d=>decide (d<=60)&&qy a (d+1)
 |.put s a b,d=>decide (d<=60)&&(qy (.at_ s a) (d+1)&&qy b (d+1))
 |.if1 c b,d=>decide (d<=60)&&(qy c (d+1)&&(decide (d+1<=60)&&S.fits b (d+2)))
 |.if2 c b t,d=>decide (d<=60)&&(qy c (d+1)&&((decide (d+1<=60)&&S.fits b (d+2))&&(decide (d+1<=60)&&S.fits t (d+2))))
 |.while_ c b,d=>decide (d<=60)&&(qy c (d+1)&&(decide (d+1<=60)&&S.fits b (d+2)))
 |.ret a,d=>decide (d<=60)&&qy a (d+1)
 |.do_ a,d=>decide (d<=60)&&qy a (d+1)
 |.var _ a,d=>decide (d<=60)&&qy a (d+1)
def S.fits:List S->Nat->Bool
 |[],_=>true
 |a::l,d=>a.fit d&&S.fits l d
end
mutual
def S.ok:S->Bool
 |.set s a=>bY s&&a.ok
 |.put s a b=>bY s&&(a.ok&&b.ok)
 |.if1 c b=>c.ok&&S.dF b
 |.if2 c b t=>c.ok&&(S.dF b&&S.dF t)
 |.while_ c b=>c.ok&&S.dF b
 |.ret a=>a.ok
 |.do_ a=>a.ok
 |.var s a=>bY s&&a.ok
def S.dF:List S->Bool
 |[]=>true
 |a::l=>a.ok&&S.dF l
end
def Es(e:Int)(j:tz)(ts:List Tok)(x:Rd T):Prop:=∃i,∀f,i<=f->rs e f j ts=x
def Eb(e:Int)(d:Nat)(H:List T)(ts:List Tok)(x:Rd (List T)):Prop:=∃i,∀f,i<=f->rs.body e f d H ts=x
def Ev.ex{e:Int}{d:Nat}{ts:List Tok}{x:Rd T}(h:Ev e (.expr d) ts x):Go.Xp.expr e d ts=x:=by
 have⟨i,s⟩:=h;rw[<-B7 (e:=e) (d:=d) (ts:=ts) (f:=i+(20*ts.length+12)) aI]
 grind
def Xx(e:Int)(d:Nat)(ts rest:List Tok)(Q:T->Prop)(b:Bool):Prop :=
 (b=true->∃t,Q t/\expr e d ts=.ok (t,rest))/\(b=false->∃u,expr e d ts=.error (9,u))
def Rx.xx{e:Int}{d:Nat}{ts rest:List Tok}{Q:T->Prop}{b:Bool}(h:Rx e d ts rest Q b):Xx e d ts rest Q b :=
 ⟨fun v=>by have⟨t,M,w⟩:=h.1 v;exact⟨t,M,w.ex⟩,fun v=>by have⟨u,M⟩:=h.2 v;exact⟨u,M.ex⟩⟩
def E.xx{a:E}{e:Int}{d:Nat}{ts rest:List Tok}{s:ai}(k:a.ok=true)(o:ts.map kf=a.tk)(q:aE rest 0=s)(C:s=[]\/s=[41]\/s=[93]\/s=[44]\/s=[59]\/s=[61]) :
  Xx e d (ts++rest) rest (fun t=>er t=a.tree) (qy a d):=((core a).rx k o q C).xx
def Sx(e:Int)(j:tz)(ts rest:List Tok)(Q:T->Prop)(b:Bool):Prop :=
 (b=true->∃t,Q t/\Es e j ts (.ok (t,rest)))/\(b=false->∃u,Es e j ts (.error (9,u)))
section
variable{e:Int}{d:Nat}{ts rest:List Tok}{Q:T->Prop}{b:Bool}
def sD{j:tz}{x:Rd T}(q:∀f,rs e (f+1) j ts=x):Es e j ts x :=
 ⟨1,fun f s=>by obtain⟨f,rfl⟩:∃g,f=g+1:=⟨f-1,by omega⟩;exact q f⟩
theorem qk(h:d<=60->Sx e (.stmt d) ts rest Q b):Sx e (.stmt d) ts rest Q (decide (d<=60)&&b):=by
 by_cases F:d<=60
 ·grind
 ·have:(decide (d<=60)&&b)=false:=by simp[F]
  exact zdg
theorem rn{u:Tok}{s:ai}(m:u.ab=3)(c:u.s=s):a6 e s (u::rest)=.ok rest:=by
 have q:aE (u::rest) 0=s:=by simp only[aE,getElem?_cons_zero,dS,m,if_true,c]
 grind[a6]
def ub{u:Tok}{s:ai}(m:u.ab=3)(c:u.s=s):aE (u::rest) 0=s:=by simp only[aE,getElem?_cons_zero,dS,m,if_true,c]
theorem vI{a:E}{u w:Tok}{A:List Tok}{C J:ai}(k:a.ok=true)(o:A.map kf=a.tk)(m:u.ab=3)(c:u.s=C)(R:w.ab=3)(L:w.s=J)(B:J=[]\/J=[41]\/J=[93]\/J=[44]\/J=[59]\/J=[61]) :
  (qy a d=true->∃t,er t=a.tree/\inner e d C J (u::(A++w::rest))=.ok (t,rest))/\(qy a d=false->∃v,inner e d C J (u::(A++w::rest))=.error (9,v)):=by
 have hx:=E.xx (e:=e) (d:=d) (rest:=w::rest) k o (ub R L) B;unfold inner;rw[rn m c];refine⟨fun z=>?_,fun z=>?_⟩
 ·have⟨t,M,F⟩:=hx.1 z
  grind[rn]
 ·have⟨v,M⟩:=hx.2 z
  grind
theorem Ka{a:E}{v u w:Tok}{A:List Tok}(k:a.ok=true)(T:v.ab=2)(C:v.s.length<=12)(o:A.map kf=a.tk)(m:u.ab=3)(c:u.s=[61])(R:w.ab=3)(J:w.s=[59]) :
  (qy a d=true->∃t,er t=a.tree/\l6 e d (v::u::(A++w::rest))=.ok ((v.s,t),rest))/\(qy a d=false->∃z,l6 e d (v::u::(A++w::rest))=.error (9,z)):=by
 have B:=vI (e:=e) (d:=d) (rest:=rest) k o m c R J ze6;unfold l6
 grind[th]
theorem jQ{t:Tok}{s:ai}(h:t.ab=2)(q:s≠[]):aE (t::rest) 0≠s:=by grind[CE]
def rL(s:S):Prop:=∀(e:Int)(d:Nat)(ts rest:List Tok),s.ok=true->ts.map kf=s.tk->aE rest 0≠iv->Sx e (.stmt d) (ts++rest) rest (fun t=>er t=s.tree) (s.fit d)
theorem Qx(s:ai)(a:E):rL (.set s a):=by
 intro e d ts rest k o _;simp only[S.ok,aU]at k;rw[S.tk]at o;obtain⟨t,r,rfl,M,H⟩:=map_cons o;obtain⟨u,r,rfl,v,N⟩:=map_cons H;obtain⟨A,B,rfl,V,W⟩:=ej N;obtain⟨w,rfl,R⟩:=jz W;have⟨M,J⟩:=qC M;have⟨v,T⟩:=eW v;have⟨R,L⟩:=eW R
 have c:t::u::(A++[w])++rest=t::u::(A++w::rest):=by simp
 have hx:=Ka (e:=e) (d:=d+1) (rest:=rest) k.2 M (by grind[nu]) V v T R L;rw[c,S.fit];have F:t.ab=2/\aE (t::u::(A++w::rest)) 1=[61]:=⟨M,by simp only[aE,List.getElem?_cons_succ,getElem?_cons_zero,dS,v,if_true,T]⟩
 refine qk fun O=>⟨fun z=>?_,fun z=>?_⟩
 ·have⟨i,G,j⟩:=hx.1 z;refine⟨one 7 t.at_ t.s [i],by show er _=_;rw[eS,bo,G,J,S.tree];rfl,sD fun f=>?_⟩;rw[rs,D aI];simp only;rw[D (jQ M aC),D (fun h=>h.elim (jQ M aC) (jQ M aC)),D (jQ M aC)];simp only[simple];grind
 ·have⟨C,G⟩:=hx.2 z;refine⟨C,sD fun f=>?_⟩;rw[rs,D aI];simp only;rw[D (jQ M aC),D (fun h=>h.elim (jQ M aC) (jQ M aC)),D (jQ M aC)]
  grind[simple]
theorem Qy(s:ai)(a:E):rL (.var s a):=by
 intro e d ts rest k o _;simp only[S.ok,aU]at k;rw[S.tk]at o;obtain⟨v,r,rfl,z,o⟩:=map_cons o;obtain⟨t,r,rfl,M,O⟩:=map_cons o;obtain⟨u,r,rfl,F,V⟩:=map_cons O;obtain⟨A,B,rfl,W,c⟩:=ej V;obtain⟨w,rfl,R⟩:=jz c;have⟨z,C⟩:=eW z;have⟨M,J⟩:=qC M;have⟨F,T⟩:=eW F;have⟨R,L⟩:=eW R
 have i:v::t::u::(A++[w])++rest=v::t::u::(A++w::rest):=by simp
 have hx:=Ka (e:=e) (d:=d+1) (rest:=rest) k.2 M (by grind[nu]) W F T R L;rw[i,S.fit]
 refine qk fun m=>⟨fun G=>?_,fun G=>?_⟩
 ·have⟨l,N,j⟩:=hx.1 G;refine⟨one 13 v.at_ t.s [l],by show er _=_;rw[eS,bo,N,J,S.tree];rfl,sD fun f=>?_⟩;rw[rs,D aI];simp only;rw[ae (ub z C),tail_cons,j];rfl
 ·have⟨H,N⟩:=hx.2 G;refine⟨H,sD fun f=>?_⟩;rw[rs,D aI];simp_all[ae,ub,tail_cons]
def Qw(a:E):rL (.ret a):=by
 intro e d ts rest k o _;simp only[S.ok]at k;rw[S.tk]at o;obtain⟨v,r,rfl,s,N⟩:=map_cons o;obtain⟨A,B,rfl,T,V⟩:=ej N;obtain⟨w,rfl,R⟩:=jz V;have⟨s,C⟩:=eW s;have⟨R,J⟩:=eW R
 have W:v::(A++[w])++rest=v::(A++w::rest):=by simp
 have hx:=E.xx (e:=e) (d:=d+1) (rest:=w::rest) k T (ub R J) ze6;rw[W,S.fit];have q:=ub (rest:=A++w::rest) s C
 refine qk fun G=>⟨fun z=>?_,fun z=>?_⟩
 ·have⟨c,F,L⟩:=hx.1 z;refine⟨one 11 v.at_ [] [c],by show er _=_;rw[eS,bo,F,S.tree];rfl,sD fun f=>?_⟩;rw[rs,D aI];simp only;rw[D zfD,D zfD,ae q,tail_cons,L];simp only;rw[rn R J];rfl
 ·have⟨t,F⟩:=hx.2 z;refine⟨t,sD fun f=>?_⟩;rw[rs,D aI];simp only;rw[D zfD,D zfD,ae q,tail_cons,F]
def oD(l:List K):Prop:=∀k∈l,k.1=3->k.2.2≠[61]
theorem w4{l V:List K}:oD (l++V)↔oD l/\oD V:=by
 unfold oD;constructor
 ·intro h;exact⟨fun k m=>h k (List.mem_append_left _ m),fun k m=>h k (List.mem_append_right _ m)⟩
 grind
def lW{a:K}{l:List K}:oD (a::l)↔(a.1=3->a.2.2≠[61])/\oD l:=by
 simp[oD,K,ai]
def Gf:oD []:=fun k l=>by cases l
theorem xZ{lv k:Nat}{x:List K}(h:oD x):oD (brk lv k x):=by
 grind[oD,brk]
mutual
def E.yQ:∀(a:E),a.ok=true->oD a.tk
 |.num n,_=>by simp[oD,tk]
 |.name s,_=>by simp[oD,tk]
 |.at_ s a,h=>by
  simp only[E.ok,aU]at h;rw[E.tk,lW,lW,w4,lW];exact⟨fun h=>zff,fun _=>aC,E.yQ a h.2,fun _=>aC,Gf⟩
 |.call s l,h=>by
  simp only[E.ok,aU]at h;rw[E.tk,lW,lW,w4,lW];exact⟨fun h=>zff,fun _=>aC,(E.OU l h.2).1,fun _=>aC,Gf⟩
 |.un s a,h=>by
  simp only[E.ok,aU,Bool.or_eq_true,beq_iff_eq]at h;rw[E.tk,lW];exact⟨fun _=>(by rcases h.1 with(h|h)|h<;>(simp only[kS,h];decide)),xZ (E.yQ a h.2)⟩
 |.bin s a b,h=>by
  simp only[E.ok,aU]at h;rw[E.tk,w4,lW];exact⟨xZ (E.yQ a h.1.2),fun _ t=>(by simp only[kS]at t;rw[t]at h;exact absurd h.1.1 aC),xZ (E.yQ b h.2)⟩
def E.OU:∀(l:List E),E.dF l=true->oD (E.nP l)/\oD (E.qM l)
 |[],_=>by simp[oD,nP,qM]
 |a::l,h=>by
  simp only[E.dF,aU]at h
  simp_all[E.yQ,E.OU,E.nP,E.qM,w4,lW]
end
theorem L1{ts:List Tok}{k:Nat}{s:ai}(h:∀t,ts[k]?=some t->t.ab=3->t.s≠s)(q:s≠[]):aE ts k≠s:=by
 unfold aE
 grind[dS]
theorem HL{a:E}{A:List Tok}{w:Tok}(k:a.ok=true)(S:A.map kf=a.tk)(R:w.s≠[61]):aE (A++w::rest) 1≠[61]:=by
 have⟨c,r0,N,_⟩:=E.head a k;refine L1 (fun t o v M=>?_) aC
 have F:1<=A.length:=by
  grind
 rw[getElem?_append]at o;split at o
 ·have G:kf t∈a.tk:=by grind
  exact E.yQ a k _ G v M
 grind
theorem Ud(a:E):rL (.do_ a):=by
 intro e d ts rest k o _;simp only[S.ok]at k;rw[S.tk]at o;obtain⟨A,B,rfl,T,W⟩:=ej o;obtain⟨w,rfl,V⟩:=jz W;have⟨V,J⟩:=eW V
 have c:A++[w]++rest=A++w::rest:=by simp
 have hx:=E.xx (e:=e) (d:=d+1) (rest:=w::rest) k T (ub V J) ze6;have G:=HL (rest:=rest) (w:=w) k T ze3;have⟨j,r0,M,L⟩:=E.head a k;obtain⟨t,r,rfl,H,_⟩:=map_cons (by rw[<-M];exact T);rw[c,S.fit];rw[List.cons_append]at hx G |-;have u:=zW (r:=r++w::rest) (by rw[H];exact L)
 have F:¬(t.ab=2/\aE (t::(r++w::rest)) 1=[61]):=fun h=>G h.2
 have R:∀s:ai,s=lV\/s=fZ\/s=gA\/s=gJ->aE (t::(r++w::rest)) 0≠s:=by
  intro s q;rcases u with h|h|h|h|h<;>rcases q with rfl|rfl|rfl|rfl<;>(rw[h];decide)
 refine qk fun N=>⟨fun v=>?_,fun v=>?_⟩
 ·have⟨i,C,O⟩:=hx.1 v;refine⟨one 12 t.at_ [] [i],by show er _=_;rw[eS,bo,C,S.tree];rfl,sD fun f=>?_⟩;refine zdF ?_;simp only[simple];simp_all[D,ub,rn]
 ·have⟨z,C⟩:=hx.2 v;refine⟨z,sD fun f=>?_⟩;refine zdF ?_
  grind[simple]
theorem aah{s:ai}{a:E}{t u w:Tok}{A:List Tok}{v:ai}(hn:bY s=true)(k:a.ok=true)(M:t.ab=2)(J:t.s=s)(F:u.ab=3)(S:u.s=[91])(T:A.map kf=a.tk)(R:w.ab=3)(L:w.s=[93])(q:aE rest 0=v)(C:v=[]\/v=[41]\/v=[93]\/v=[44]\/v=[59]\/v=[61]) :
  Xx e d (t::u::(A++w::rest)) rest (fun x=>er x=(E.at_ s a).tree/\x.n.ab=3/\x.n.at_=t.at_/\x.n.s=s/\∃y,x.au=[y]/\er y=a.tree) (qy (.at_ s a) d):=by
 have V:t.s.length<=12:=by grind[nu]
 have hx:=(core a).rx (e:=e) (d:=d+1+1) (rest:=w::rest) (s:=[93]) k T (ub R L) ze6
 have G:Ro e (d+1) (t::u::(A++w::rest)) rest (fun x=>er x=(E.at_ s a).tree/\x.n.ab=3/\x.n.at_=t.at_/\x.n.s=s/\∃y,x.au=[y]/\er y=a.tree) ((E.at_ s a).fit (d+1)):=by
  rw[E.fit,Bool.and_assoc]
  refine tj fun H=>⟨fun z=>?_,fun z=>?_⟩
  ·have⟨c,B,N⟩:=hx.1 z;exact⟨one 3 t.at_ t.s [c],⟨by rw[eS,bo,B,J,E.tree];rfl,rfl,rfl,J,_,rfl,B⟩,Ev.ix H M V F S R L N⟩
  ·have⟨O,B⟩:=hx.2 z
   grind[Ev.ixX]
 exact((G.rt (bg 9) (D8 q C)).rx (Bv q C)).xx
theorem Qv(s:ai)(a b:E):rL (.put s a b):=by
 intro e d ts rest F ht _;simp only[S.ok,aU]at F;rw[S.tk]at ht;obtain⟨t,r,rfl,n,h2⟩:=map_cons ht;obtain⟨u,r,rfl,M,h4⟩:=map_cons h2;obtain⟨A,B,rfl,h5,h6⟩:=ej h4;obtain⟨w,r,rfl,O,h8⟩:=map_cons h6;obtain⟨q,r,rfl,o,H⟩:=map_cons h8;obtain⟨B,C,rfl,J,L⟩:=ej H;obtain⟨z,rfl,i⟩:=jz L;have⟨n,G⟩:=qC n;have⟨M,N⟩:=eW M;have⟨O,R⟩:=eW O;have⟨o,l⟩:=eW o;have⟨i,k⟩:=eW i
 have he:t::u::(A++w::q::(B++[z]))++rest=t::u::(A++w::(q::(B++z::rest))):=by simp
 have V:=ub (rest:=B++z::rest) o l;have hx:=aah (e:=e) (d:=d+1) (rest:=q::(B++z::rest)) F.1 F.2.1 n G M N h5 O R V ze6;have hv:=vI (e:=e) (d:=d+1) (rest:=rest) F.2.2 J o l i k ze6;rw[he,S.fit]
 have W:¬(t.ab=2/\aE (t::u::(A++w::(q::(B++z::rest)))) 1=[61]):=fun h=>by
  simp_all[aE,List.getElem?_cons_succ,getElem?_cons_zero,dS,if_true]
 have c:∀s:ai,s≠[]->aE (t::u::(A++w::(q::(B++z::rest)))) 0≠s:=fun s hs=>jQ n hs
 refine qk fun hd=>?_
 cases m:qy (.at_ s a) (d+1)with
 |false =>
  refine⟨fun T=>(by cases T),fun _=>?_⟩;have⟨j,k1⟩:=hx.2 m;refine⟨j,sD fun f=>?_⟩;refine zcf ?_
  grind[simple]
 |true =>
  have⟨x,⟨_,k1,k2,k3,y,k4,k5⟩,k6⟩:=hx.1 m;refine⟨fun T=>?_,fun T=>?_⟩
  ·have⟨v,k7,k8⟩:=hv.1 ze3;refine⟨one 8 t.at_ s [y,v],by show er _=_;rw[eS,bo,bo,k5,k7,S.tree];rfl,sD fun f=>?_⟩;refine zcf ?_;simp only[simple];grind
  ·have⟨j,k7⟩:=hv.2 ze3;refine⟨j,sD fun f=>?_⟩;refine zcf ?_
   grind[simple]
end
section
variable{e:Int}{d:Nat}{ts rest:List Tok}{Q:T->Prop}{b:Bool}
theorem S.head{s:S}(k:s.ok=true)(o:ts.map kf=s.tk):∃t r,ts=t::r/\∀rest,aE (t::rest) 0≠iv/\aE (t::rest) 0≠[125]:=by
 cases s with
 |set s a =>
  exact zb6
 |put s a b =>
  exact zb6
 |if1 c b =>
  exact zax
 |if2 c b v =>
  exact zax
 |while_ c b =>
  exact zax
 |ret a =>
  exact zax
 |var s a =>
  exact zax
 |do_ a =>
  simp only[S.ok]at k;have⟨i,r0,N,u⟩:=E.head a k;rw[S.tk,N]at o;obtain⟨t,r,rfl,M,_⟩:=map_cons o;refine⟨t,r,rfl,fun rest=>?_⟩
  rcases zW (r:=rest) (by rw[M];exact u)with h|h|h|h|h<;>(rw[h];decide)
def rK(l:List S):Prop:=∀(e:Int)(d:Nat)(H:List T)(ts rest:List Tok)(u:Tok),S.dF l=true->ts.map kf=S.nP l->u.ab=3->u.s=[125] ->
 (S.fits l d=true->∃A,bo A=S.aM l/\Eb e d H (ts++u::rest) (.ok (H++A,rest)))/\(S.fits l d=false->∃t,Eb e d H (ts++u::rest) (.error (9,t)))
theorem M7:rK []:=by
 intro e d H ts rest u _ o m c
 have:ts=[]:=by simp_all[S.nP]
 subst this;refine⟨fun _=>⟨[],rfl,1,fun f s=>?_⟩,fun h=>by simp[S.fits]at h⟩;obtain⟨f,rfl⟩:∃g,f=g+1:=⟨f-1,by omega⟩;rw[rs.body,ae (by exact ub m c),fV];rfl
theorem La{a:S}{l:List S}(F:rL a)(G:rK l):rK (a::l):=by
 intro e d n ts rest u j z C k;simp only[S.dF,aU]at j;rw[S.nP]at z;obtain⟨A,B,rfl,s,J⟩:=ej z;obtain⟨t,r,rfl,M⟩:=S.head j.1 s
 have q:aE (B++u::rest) 0≠iv:=by
  cases l with
  |nil =>
   have:B=[]:=by simp_all[S.nP]
   subst this;rw[List.nil_append,ub C k];decide
  |cons R l' =>
   simp only[S.dF,aU]at j
   grind[S.nP,ej,S.head]
 have hx:=F e d (t::r) (B++u::rest) j.1 s q
 have L:t::r++B++u::rest=t::r++(B++u::rest):=by simp
 have T:aE (t::r++(B++u::rest)) 0≠[125]:=(M _).2;rw[L,S.fits]
 cases i:a.fit d with
 |false =>
  refine⟨fun o=>(by simp at o),fun _=>?_⟩;have⟨c,m,H⟩:=hx.2 i;refine⟨c,m+1,fun f v=>?_⟩;obtain⟨f,rfl⟩:∃g,f=g+1:=⟨f-1,by omega⟩
  grind[rs.body]
 |true =>
  have⟨E,V,m,H⟩:=hx.1 i;have w:=G e d (n++[E]) B rest u j.2 J C k;refine⟨fun o=>?_,fun o=>?_⟩
  ·have⟨O,N,eg,W⟩:=w.1 ze3;refine⟨E::O,by grind[bo,S.aM],m+eg+1,fun f v=>?_⟩;obtain⟨f,rfl⟩:∃g,f=g+1:=⟨f-1,by omega⟩
   grind[rs.body]
  ·have⟨c,eg,N⟩:=w.2 ze3;refine⟨c,m+eg+1,fun f v=>?_⟩;obtain⟨f,rfl⟩:∃g,f=g+1:=⟨f-1,by omega⟩
   grind[rs.body]
theorem rK.blk{l:List S}(C:rK l){A:List Tok}{u w:Tok}(k:S.dF l=true)(o:A.map kf=S.nP l)(m:u.ab=3)(c:u.s=[123])(R:w.ab=3)(J:w.s=[125]) :
  Sx e (.block d) (u::(A++w::rest)) rest (fun t=>er t=.mk ⟨14,0,0,[],[]⟩ (S.aM l)) (decide (d<=60)&&S.fits l (d+1)):=by
 have v:=C e (d+1) [] A rest w k o R J
 by_cases F:d<=60
 ·have:(decide (d<=60)&&S.fits l (d+1))=S.fits l (d+1):=by simp[F]
  rw[this];refine⟨fun h=>?_,fun h=>?_⟩
  ·have⟨G,H,i,B⟩:=v.1 h;refine⟨one 14 u.at_ [] G,by grind[eS],i+1,fun f E=>?_⟩;obtain⟨f,rfl⟩:∃g,f=g+1:=⟨f-1,by omega⟩;rw[rs,D aI,rn m c];simp only;rw[B f aI];rfl
  ·have⟨z,i,B⟩:=v.2 h;refine⟨z,i+1,fun f E=>?_⟩;obtain⟨f,rfl⟩:∃g,f=g+1:=⟨f-1,by omega⟩;rw[rs,D aI,rn m c];grind
 ·have:(decide (d<=60)&&S.fits l (d+1))=false:=by simp[F]
  exact zdg
theorem xJ{j:tz}{x:Rd T}{c:List Tok}{o:tz}{M:Rd T}(h:Es e j ts x)(q:∀f,rs e f j ts=x->rs e (f+1) o c=M):Es e o c M:=by
 have⟨i,s⟩:=h;refine⟨i+1,fun f t=>?_⟩;obtain⟨f,rfl⟩:∃g,f=g+1:=⟨f-1,by omega⟩
 grind
theorem I8{j u:tz}{x t:Rd T}{c r:List Tok}{o:tz}{M:Rd T}(h:Es e j ts x)(v:Es e u r t)(q:∀f,rs e f j ts=x->rs e f u r=t->rs e (f+1) o c=M):Es e o c M:=by
 have⟨i,s⟩:=h;have⟨eg,N⟩:=v;refine⟨i+eg+1,fun f w=>?_⟩;obtain⟨f,rfl⟩:∃g,f=g+1:=⟨f-1,by omega⟩
 grind
theorem Qs(c:E){l:List S}(C:rK l):rL (.if1 c l):=by
 intro e d ts rest T ht R;simp only[S.ok,aU]at T;rw[S.tk]at ht;obtain⟨v,r,rfl,s,h2⟩:=map_cons ht;obtain⟨u,r,rfl,H,h4⟩:=map_cons h2;obtain⟨A,r,rfl,h5,h6⟩:=ej h4;obtain⟨w,r,rfl,L,h8⟩:=map_cons h6;obtain⟨x,r,rfl,N,z⟩:=map_cons h8;obtain⟨B,r,rfl,F,G⟩:=ej z;obtain⟨y,rfl,i⟩:=jz G;have⟨s,t⟩:=eW s;have⟨H,J⟩:=eW H;have⟨L,M⟩:=eW L;have⟨N,O⟩:=eW N;have⟨i,m⟩:=eW i
 have he:v::u::(A++w::x::(B++[y]))++rest=v::u::(A++w::(x::(B++y::rest))):=by simp
 have hi:=vI (e:=e) (d:=d+1) (rest:=x::(B++y::rest)) T.1 h5 H J L M ze6;have o:=C.blk (e:=e) (d:=d+1) (rest:=rest) T.2 F N O i m;have j:=ub (rest:=u::(A++w::(x::(B++y::rest)))) s t;rw[he,S.fit]
 refine qk fun hd=>?_
 cases n:qy c (d+1)with
 |false =>
  refine⟨fun o=>(by simp at o),fun _=>?_⟩;have⟨k,V⟩:=hi.2 n;refine⟨k,sD fun f=>?_⟩;rw[rs,D aI];simp only;rw[D zfn,ae (.inl j),tail_cons,V]
 |true =>
  have⟨tc,V,k2⟩:=hi.1 n;rw[Bool.true_and];refine⟨fun h=>?_,fun h=>?_⟩
  ·have⟨tb,q,W⟩:=o.1 h;refine⟨one 9 v.at_ [] [tc,tb],by show er _=_;rw[eS,bo,bo,V,q,S.tree];rfl,xJ W fun f W=>?_⟩;refine za3 ?_;simp only;rw[W];simp only;rw[ae j,D R];rfl
  ·have⟨k,q⟩:=o.2 h;refine⟨k,xJ q fun f q=>?_⟩;refine za3 ?_;grind
theorem Lc(c:E){l:List S}(C:rK l):rL (.while_ c l):=by
 intro e d ts rest R ht sa;simp only[S.ok,aU]at R;rw[S.tk]at ht;obtain⟨v,r,rfl,s,h2⟩:=map_cons ht;obtain⟨u,r,rfl,H,h4⟩:=map_cons h2;obtain⟨A,r,rfl,h5,h6⟩:=ej h4;obtain⟨w,r,rfl,L,h8⟩:=map_cons h6;obtain⟨x,r,rfl,N,z⟩:=map_cons h8;obtain⟨B,r,rfl,F,G⟩:=ej z;obtain⟨y,rfl,i⟩:=jz G;have⟨s,t⟩:=eW s;have⟨H,J⟩:=eW H;have⟨L,M⟩:=eW L;have⟨N,O⟩:=eW N;have⟨i,m⟩:=eW i
 have he:v::u::(A++w::x::(B++[y]))++rest=v::u::(A++w::(x::(B++y::rest))):=by simp
 have W:=vI (e:=e) (d:=d+1) (rest:=x::(B++y::rest)) R.1 h5 H J L M ze6;have o:=C.blk (e:=e) (d:=d+1) (rest:=rest) R.2 F N O i m;have j:=ub (rest:=u::(A++w::(x::(B++y::rest)))) s t;rw[he,S.fit]
 refine qk fun hd=>?_
 cases n:qy c (d+1)with
 |false =>
  refine⟨fun o=>(by simp at o),fun _=>?_⟩;have⟨k,T⟩:=W.2 n;refine⟨k,sD fun f=>?_⟩;rw[rs,D aI];simp only;rw[D zfn,ae (.inr j),tail_cons,T]
 |true =>
  have⟨tc,T,k2⟩:=W.1 n;rw[Bool.true_and];refine⟨fun h=>?_,fun h=>?_⟩
  ·have⟨tb,q,V⟩:=o.1 h;refine⟨one 10 v.at_ [] [tc,tb],by show er _=_;rw[eS,bo,bo,T,q,S.tree];rfl,xJ V fun f V=>?_⟩;rw[rs,D aI];simp only;rw[D zfn,ae (.inr j),tail_cons,k2];simp only;rw[V];simp only;rw[D zfn];rfl
  ·have⟨k,q⟩:=o.2 h;refine⟨k,xJ q fun f q=>?_⟩;rw[rs,D aI];simp only;rw[D zfn,ae (.inr j),tail_cons,k2];grind
theorem Qt(c:E){l l2:List S}(C:rK l)(C2:rK l2):rL (.if2 c l l2):=by
 intro e d ts rest T ht sa;simp only[S.ok,aU]at T;rw[S.tk]at ht;obtain⟨v,r,rfl,h1,h2⟩:=map_cons ht;obtain⟨u,r,rfl,h3,h4⟩:=map_cons h2;obtain⟨A,r,rfl,h5,h6⟩:=ej h4;obtain⟨w,r,rfl,h7,h8⟩:=map_cons h6;obtain⟨x,r,rfl,h9,Z8⟩:=map_cons h8;obtain⟨B,r,rfl,h11,h12⟩:=ej Z8;obtain⟨y,r,rfl,k,h14⟩:=map_cons h12;obtain⟨z,r,rfl,m,h16⟩:=map_cons h14;obtain⟨t,r,rfl,n,h18⟩:=map_cons h16;obtain⟨q,r,rfl,h19,h20⟩:=ej h18;obtain⟨F,rfl,o⟩:=jz h20;have⟨h1,h1'⟩:=eW h1;have⟨h3,h3'⟩:=eW h3;have⟨h7,h7'⟩:=eW h7;have⟨h9,h9'⟩:=eW h9;have⟨k,G⟩:=eW k;have⟨m,H⟩:=eW m;have⟨n,J⟩:=eW n;have⟨o,L⟩:=eW o
 have he:v::u::(A++w::x::(B++y::z::t::(q++[F])))++rest=v::u::(A++w::(x::(B++y::(z::(t::(q++F::rest)))))):=by simp
 have hi:=vI (e:=e) (d:=d+1) (rest:=x::(B++y::(z::(t::(q++F::rest))))) T.1 h5 h3 h3' h7 h7' ze6;have s:=C.blk (e:=e) (d:=d+1) (rest:=z::(t::(q++F::rest))) T.2.1 h11 h9 h9' k G;have M:=C2.blk (e:=e) (d:=d+1) (rest:=rest) T.2.2 h19 n J o L;have j:=ub (rest:=u::(A++w::(x::(B++y::(z::(t::(q++F::rest))))))) h1 h1';have hz:=ub (rest:=t::(q++F::rest)) m H;rw[he,S.fit]
 refine qk fun hd=>?_
 cases N:qy c (d+1)with
 |false =>
  refine⟨fun s=>(by simp at s),fun _=>?_⟩;have⟨i,k1⟩:=hi.2 N;refine⟨i,sD fun f=>?_⟩;rw[rs,D aI];simp only;rw[D zfn,ae (.inl j),tail_cons,k1]
 |true =>
  have⟨tc,k1,k2⟩:=hi.1 N;rw[Bool.true_and]
  cases O:(decide (d+1<=60)&&S.fits l (d+2))with
  |false =>
   refine⟨fun s=>(by simp at s),fun _=>?_⟩;have⟨i,V⟩:=s.2 O;refine⟨i,xJ V fun f V=>?_⟩;refine za3 ?_;grind
  |true =>
   have⟨tb,V,R⟩:=s.1 O;rw[Bool.true_and];refine⟨fun h=>?_,fun h=>?_⟩
   ·have⟨tb2,W,k6⟩:=M.1 h;refine⟨one 9 v.at_ [] [tc,tb,tb2],by show er _=_;rw[eS,bo,bo,bo,k1,V,W,S.tree];rfl,I8 R k6 fun f R k6=>?_⟩;refine za3 ?_;simp only;rw[R];simp only;rw[ae j,ae hz,tail_cons,k6];rfl
   ·have⟨i,W⟩:=M.2 h;refine⟨i,I8 R W fun f R W=>?_⟩;refine za3 ?_;grind
end
mutual
def coreS:∀(s:S),rL s
 |.set s a=>Qx s a
 |.put s a b=>Qv s a b
 |.if1 c b=>Qs c (yx b)
 |.if2 c b t=>Qt c (yx b) (yx t)
 |.while_ c b=>Lc c (yx b)
 |.ret a=>Qw a
 |.do_ a=>Ud a
 |.var s a=>Qy s a
def yx:∀(l:List S),rK l
 |[]=>M7
 |a::l=>La (coreS a) (yx l)
end
def KY(l:List S):List K:=kS [123]::(S.nP l++[kS [125]])
def cy(l:List S):T:=.mk ⟨14,0,0,[],[]⟩ (S.aM l)
def gh(l:List S)(d:Nat):Bool:=decide (d<=60)&&S.fits l (d+1)
def ZX(e:Int):∀f,(∀j ts,rs e f j ts=.error bs\/rs e (f+1) j ts=rs e f j ts)/\(∀d H ts,rs.body e f d H ts=.error bs\/rs.body e (f+1) d H ts=rs.body e f d H ts):=by
 intro f
 induction f with
 |zero=>exact⟨fun j ts=>.inl zfK,fun d H ts=>.inl zfy⟩
 |succ f O =>
  have⟨t,u⟩:=O;refine⟨fun j ts=>?_,fun d H ts=>?_⟩
  ·cases j with
   |block d =>
    grind[rs]
   |stmt d =>
    rw[rs,rs];split
    ·simp
    ·simp only;split
     ·simp
     ·split
      ·cases inner e (d+1) [40] [41] ts.tail with
       |error x=>simp
       |ok y =>
        grind
      simp
  grind[rs.body]
def Vo{e:Int}{f B:Nat}{j:tz}{ts:List Tok}(h:rs e f j ts≠.error bs)(hf:f<=B):rs e B j ts=rs e f j ts:=by
 obtain⟨k,rfl⟩:=Nat.exists_eq_add_of_le hf;clear hf
 induction k with
 |zero=>rfl
 |succ k O =>
  rcases(ZX e (f+k)).1 j ts with M|M
  ·grind
  grind
def E3{l:List S}{e:Int}{d:Nat}{ts rest:List Tok}(k:S.dF l=true)(o:ts.map kf=KY l) :
  (gh l d=true->∃t,er t=cy l/\block e d (ts++rest)=.ok (t,rest))/\(gh l d=false->∃v,block e d (ts++rest)=.error (9,v)):=by
 obtain⟨u,r,rfl,M,C⟩:=map_cons o;obtain⟨A,r,rfl,E,N⟩:=ej C;obtain⟨w,rfl,V⟩:=jz N;have⟨M,J⟩:=eW M;have⟨V,L⟩:=eW V;have z:=(yx l).blk (e:=e) (d:=d) (rest:=rest) k E M J V L
 have R:u::(A++[w])++rest=u::(A++w::rest):=by simp
 rw[R]
 have c:∀{x:Rd T},Es e (.block d) (u::(A++w::rest)) x->block e d (u::(A++w::rest))=x:=by
  rintro x⟨i,s⟩;have q:rs e (nJ (u::(A++w::rest))) (.block d) (u::(A++w::rest))≠.error bs:=wy;have:=Vo q (Nat.le_add_left _ i)
  grind[block]
 exact⟨fun h=>by have⟨t,B,O⟩:=z.1 h;exact⟨t,B,c O⟩,fun h=>by have⟨v,B⟩:=z.2 h;grind⟩
open Go.Sp (ef dK cK own nL bW)
def bD(n:Int):Int:=if n%4294967296>2147483647 then n%4294967296-4294967296 else n%4294967296
def gN(n:Nat):ai:=if h:n<10 then[UInt8.ofNat (48+n)]else gN (n / 10)++[UInt8.ofNat (48+n%10)]
termination_by n
decreasing_by omega
def Fi(n:Nat):(gN n).length<=n+1:=by
 induction n using Nat.strongRecOn with
 |_ n O =>
 grind[gN]
def cE:List ai->ai
 |[]=>[]
 |x::r=>x++r.flatMap fun y=>44::32::y
def A1{l:List ai}(h:l≠[])(x:ai):cE (l++[x])=(cE l++[44,32])++x:=by
 cases l with
 |nil=>grind
 |cons a l=>simp[ai,cE]
def wN(l:List ai)(k:Nat):(cE (l.take k)).length<=(cE l).length:=by
 cases l with
 |nil=>simp
 |cons a l =>
  cases k with
  |zero=>simp[cE]
  |succ k =>
   simp only[List.take_succ_cons,cE,bf]
   have:∀(l:List ai)(k:Nat),((l.take k).flatMap fun y=>(44:UInt8)::32::y).length<=(l.flatMap fun y=>(44:UInt8)::32::y).length:=by
    intro l
    induction l with
    |nil=>simp
    |cons b l O=>intro k;cases k with
     |zero=>simp
     |succ k=>grind
   grind
def qU(lv k:Nat)(x:ai):ai:=if lv<k then(40::x)++[41]else x
mutual
def E.bP:E->ai
 |.num n=>gN n.toNat
 |.name s=>s
 |.at_ s a=>((s++[91])++a.bP)++[93]
 |.call s l=>((s++[40])++cE (E.ei l))++[41]
 |.un s a=>(s++[32])++qU a.lv 9 a.bP
 |.bin s a b=>(((qU a.lv (eX s) a.bP++[32])++s)++[32])++qU b.lv (eX s+1) b.bP
def E.ei:List E->List ai
 |[]=>[]
 |a::l=>a.bP::E.ei l
end
mutual
def E.full:E->ai
 |.num n=>gN n.toNat
 |.name s=>s
 |.at_ s a=>((s++[91])++a.full)++[93]
 |.call s l=>((s++[40])++cE (E.uD l))++[41]
 |.un s a=>((40::s)++a.full)++[41]
 |.bin s a b=>(((((40::a.full)++[32])++s)++[32])++b.full)++[41]
def E.uD:List E->List ai
 |[]=>[]
 |a::l=>a.full::E.uD l
end
def E.R6(l:List E):E.ei l=l.map E.bP:=by
 induction l with
 |nil=>rfl
 |cons a l O=>grind[ei]
def E.NF(l:List E):E.uD l=l.map E.full:=by
 induction l with
 |nil=>rfl
 |cons a l O=>grind[uD]
def E.out(M:Bool)(a:E):ai:=if M then a.bP else a.full
mutual
def S.bP(x:E->ai):S->ai
 |.set s a=>((s++[32,61,32])++x a)++[59]
 |.put s a b=>((((s++[91])++x a)++[93,32,61,32])++x b)++[59]
 |.if1 c b=>(([105,102,32,40]++x c)++[41,32])++(S.ei x [123,32] b++[125])
 |.if2 c b t=>(((([105,102,32,40]++x c)++[41,32])++(S.ei x [123,32] b++[125]))++[32,101,108,115,101,32])++(S.ei x [123,32] t++[125])
 |.while_ c b=>(([119,104,105,108,101,32,40]++x c)++[41,32])++(S.ei x [123,32] b++[125])
 |.ret a=>([114,101,116,117,114,110,32]++x a)++[59]
 |.do_ a=>x a++[59]
 |.var s a=>((([118,97,114,32]++s)++[32,61,32])++x a)++[59]
def S.ei(x:E->ai):ai->List S->ai
 |acc,[]=>acc
 |acc,a::l=>S.ei x ((acc++a.bP x)++[32]) l
end
def ir(x:E->ai)(l:List S):ai:=S.ei x [123,32] l++[125]
def Iy(n:Nd)(l:List T):ef (.mk n l)=(dK l&&cK (.mk n l)):=by rw[ef]
theorem ux{l:List T}(h:dK l=true){t:T}(o:t∈l):ef t=true:=by
 induction l with
 |nil=>cases o
 |cons a l O =>
  grind[dK]
theorem pG(n:Nd)(l:List T):er (.mk n l)=.mk ⟨n.ab,0,n.n,n.s,[]⟩ (bo l):=by rw[er]
def jG{l:List T}{m i:Nat}(h:bW m i l=true):∀(j:Nat)t,l[j]?=some t->(if i+j<m then nL t.n.ab else t.n.ab==14)=true:=by
 induction l generalizing i with
 |nil=>simp
 |cons a l O =>
  grind[bW]
def Fq:∀(l:List T),(∀t∈l,∃a:E,a.ok=true/\er t=a.tree)->∃m:List E,E.dF m=true/\bo l=E.aM m
 |[],_=>⟨[],rfl,rfl⟩
 |t::l,h=>by
  have⟨a,M,v⟩:=h t (mem_cons_self);obtain⟨m,w,N⟩:=Fq l (fun t o=>h t (ew _ o));exact⟨a::m,by grind[E.dF],by grind[bo,E.aM]⟩
def toE:∀(e:Nat)(t:T),sizeOf t<=e->ef t=true->nL t.n.ab=true->∃a:E,a.ok=true/\er t=a.tree:=by
 intro e
 induction e with
 |zero=>intro t h;cases t;simp at h
 |succ e Q =>
  intro t F A q;have⟨n,l⟩:=t;rw[Iy,aU]at A;have⟨A,m⟩:=A
  have W:∀t∈l,nL t.n.ab=true->∃a:E,a.ok=true/\er t=a.tree:=fun t o q=>by
   have:=List.sizeOf_lt_of_mem o
   grind[ux]
  have⟨k,at_,v,s,J⟩:=n
  have q:(1:Int)<=k/\k<=6:=by
   simp only[nL,T.n,aU]at q
   grind
  simp only[cK,own,T.n,T.au]at m
  obtain rfl|rfl|rfl|rfl|rfl|rfl:k=1\/k=2\/k=3\/k=4\/k=5\/k=6:=by omega
  ·simp at m;have⟨M,w,z,N,S⟩:=m;subst N S;exact⟨.num v,by grind[E.ok],by rfl⟩
  ·simp at m;have⟨M,w,z,N⟩:=m;subst w N;exact⟨.name s,by simp[E.ok,z],by rfl⟩
  ·simp at m;have⟨M,w,z,N,S⟩:=m;subst w
   match l,N with
   |[t],_ =>
    have r:=jG S 0 t rfl;have⟨a,V,R⟩:=W t ze6 ze3;exact⟨.at_ s a,by grind[E.ok],by rw[pG,E.tree,bo,R];rfl⟩
  ·simp at m;have⟨M,w,z,S⟩:=m;subst w
   obtain⟨B,V,R⟩:=Fq l fun t o=>W t o (by
    have⟨j,G⟩:=List.mem_iff_getElem?.1 o;have O:=(bR G).1;have:=jG S j t G
    grind)
   exact⟨.call s B,by grind[E.ok],by rw[pG,E.tree,R]⟩
  ·simp at m;have⟨M,w,z,N,S⟩:=m;subst w
   match l,N with
   |[t],_ =>
    have r:=jG S 0 t rfl;have⟨a,V,R⟩:=W t ze6 ze3;exact⟨.un s a,by grind[E.ok],by rw[pG,E.tree,bo,R];rfl⟩
  ·simp at m;have⟨M,w,z,N,S⟩:=m;subst w
   match l,N with
   |[t,u],_ =>
    have r:=jG S 0 t rfl;have C:=jG S 1 u rfl;have⟨a,V,R⟩:=W t ze6 ze3;have⟨b,H,i⟩:=W u ze6 ze3;exact⟨.bin s a b,by grind[E.ok],by grind[pG,bo,er,E.tree]⟩
open Go.Sp (jo)
def G1:∀(l:List T),(∀t∈l,∃a:S,a.ok=true/\er t=a.tree)->∃m:List S,S.dF m=true/\bo l=S.aM m
 |[],_=>⟨[],rfl,rfl⟩
 |t::l,h=>by
  have⟨a,M,v⟩:=h t (mem_cons_self);obtain⟨m,w,N⟩:=G1 l (fun t o=>h t (ew _ o));exact⟨a::m,by grind[S.dF],by grind[bo,S.aM]⟩
def toS:∀(e:Nat)(t:T),sizeOf t<=e->ef t=true->(jo t.n.ab=true->∃a:S,a.ok=true/\er t=a.tree)/\(t.n.ab=14->∃l:List S,S.dF l=true/\er t=cy l):=by
 intro e
 induction e with
 |zero=>intro t h;cases t;simp at h
 |succ e O =>
  intro t J C;have⟨n,l⟩:=t;rw[Iy,aU]at C;have⟨C,m⟩:=C
  have A:∀t∈l,nL t.n.ab=true->∃a:E,a.ok=true/\er t=a.tree:=fun t r q=>toE _ t (aQ _) (ux C r) q
  have o:∀t∈l,t.n.ab=14->∃l:List S,S.dF l=true/\er t=cy l:=fun t r q=>by
   have:=List.sizeOf_lt_of_mem r
   grind[ux]
  have H:∀t∈l,jo t.n.ab=true->∃a:S,a.ok=true/\er t=a.tree:=fun t r q=>by
   have:=List.sizeOf_lt_of_mem r
   grind[ux]
  have⟨k,at_,v,s,Q⟩:=n;simp only[cK,own,T.n,T.au]at m;refine⟨fun q=>?_,fun q=>?_⟩
  ·have q:(7:Int)<=k/\k<=13:=by
    simp only[jo,T.n,aU]at q
    grind
   obtain rfl|rfl|rfl|rfl|rfl|rfl|rfl:k=7\/k=8\/k=9\/k=10\/k=11\/k=12\/k=13:=by omega
   ·simp at m;have⟨M,z,B,N,V⟩:=m;subst z
    match l,N with
    |[t],_ =>
     have⟨a,W,R⟩:=A t ze6 ze9;exact⟨.set s a,by grind[S.ok],by rw[pG,S.tree,bo,R];rfl⟩
   ·simp at m;have⟨M,z,B,N,V⟩:=m;subst z
    match l,N with
    |[t,u],_ =>
     have⟨a,W,R⟩:=A t ze6 ze9;have⟨b,G,i⟩:=A u ze6 zfm;exact⟨.put s a b,by grind[S.ok],by grind[pG,bo,er,S.tree]⟩
   ·simp at m;have⟨M,z,B,N,V⟩:=m;subst z B
    rcases N with N|N
    ·match l,N with
     |[t,u],_ =>
      have⟨a,W,R⟩:=A t ze6 ze9;have⟨b,G,i⟩:=o u ze6 zfm;exact⟨.if1 a b,by grind[S.ok],by rw[pG,S.tree,bo,bo,R,i];rfl⟩
    ·match l,N with
     |[t,u,w],_ =>
      have⟨a,W,R⟩:=A t ze6 ze9;have⟨b,G,i⟩:=o u ze6 zfm;obtain⟨c,d,F⟩:=o w ze6 (by simpa using jG V 2 w rfl);exact⟨.if2 a b c,by grind[S.ok],by rw[pG,S.tree,bo,bo,bo,R,i,F];rfl⟩
   ·simp at m;have⟨M,z,B,N,V⟩:=m;subst z B
    match l,N with
    |[t,u],_ =>
     have⟨a,W,R⟩:=A t ze6 ze9;have⟨b,G,i⟩:=o u ze6 zfm;exact⟨.while_ a b,by grind[S.ok],by rw[pG,S.tree,bo,bo,R,i];rfl⟩
   ·simp at m;have⟨M,z,B,N,V⟩:=m;subst z B
    match l,N with
    |[t],_ =>
     have⟨a,W,R⟩:=A t ze6 ze9;exact⟨.ret a,by simp[S.ok,W],by rw[pG,S.tree,bo,R];rfl⟩
   ·simp at m;have⟨M,z,B,N,V⟩:=m;subst z B
    match l,N with
    |[t],_ =>
     have⟨a,W,R⟩:=A t ze6 ze9;exact⟨.do_ a,by simp[S.ok,W],by rw[pG,S.tree,bo,R];rfl⟩
   ·simp at m;have⟨M,z,B,N,V⟩:=m;subst z
    match l,N with
    |[t],_ =>
     have⟨a,W,R⟩:=A t ze6 ze9;exact⟨.var s a,by grind[S.ok],by rw[pG,S.tree,bo,R];rfl⟩
  ·simp only[T.n]at q;subst q;simp at m;have⟨M,z,B,N⟩:=m;subst z N
   obtain⟨L,V,W⟩:=G1 l fun t r=>H t r (B t r)
   grind[S.dF,er,cy]
def toB{t:T}(h:ef t=true)(k:t.n.ab=14):∃l:List S,S.dF l=true/\er t=cy l:=(toS _ t (aQ _) h).2 k
mutual
def wt:T->Nat
 |.mk n l=>30+n.s.length+gy l
def gy:List T->Nat
 |[]=>0
 |t::l=>wt t+gy l
end
mutual
theorem TL:∀t:T,wt (er t)=wt t
 |.mk n l=>by rw[er,wt,wt,Kt l]
theorem Kt:∀l:List T,gy (bo l)=gy l
 |[]=>rfl
 |t::l=>by rw[bo,gy,gy,TL t,Kt l]
end
def IX:∀(k n:Nat),n<10^(k+1)->(gN n).length<=k+1:=by
 intro k
 induction k with
 |zero=>grind[gN]
 |succ k O =>
  grind[gN]
def s9(lv k:Nat)(x:ai):(qU lv k x).length<=x.length+2:=by grind[qU]
mutual
theorem E.len:∀a:E,a.ok=true->a.bP.length+4<=wt a.tree/\a.full.length+4<=wt a.tree
 |.num n,h=>by
  simp only[E.ok,aU]at h;have M:=oe h.1;have v:=oe h.2;have:=IX 9 n.toNat aI
  grind[bP,wt,tree,full]
 |.name s,h=>by grind[bP,wt,tree,full]
 |.at_ s a,h=>by
  simp only[E.ok,aU]at h;have:=E.len a h.2;exact zbW
 |.call s l,h=>by
  simp only[E.ok,aU]at h;have:=E.lens l h.2
  grind[bP,wt,tree,full]
 |.un s a,h=>by
  simp only[E.ok,aU]at h;have:=E.len a h.2;have:=s9 a.lv 9 a.bP;exact zbW
 |.bin s a b,h=>by
  simp only[E.ok,aU]at h;have:=E.len a h.1.2;have:=E.len b h.2;have:=s9 a.lv (eX s) a.bP;have:=s9 b.lv (eX s+1) b.bP;exact zbW
theorem E.lens:∀l:List E,E.dF l=true->(cE (E.ei l)).length<=gy (E.aM l)/\(cE (E.uD l)).length<=gy (E.aM l)
 |[],_=>⟨bg _,bg _⟩
 |a::l,h=>by
  simp only[E.dF,aU]at h;have M:=E.len a h.1;have v:=E.lens l h.2;rw[E.ei,E.uD,E.aM,gy]
  have c:∀(x:ai)(l:List ai),(cE (x::l)).length<=x.length+2+(cE l).length:=by
   intro x l
   cases l with
   |nil=>simp[cE]
   |cons y l=>grind[cE]
  grind
end
mutual
theorem S.len(x:E->ai)(hx:∀a:E,a.ok=true->(x a).length+4<=wt a.tree):∀s:S,s.ok=true->(s.bP x).length+4<=wt s.tree
 |.set s a,h=>by
  simp only[S.ok,aU]at h
  exact zaH
 |.put s a b,h=>by
  simp only[S.ok,aU]at h
  exact zaH
 |.if1 c b,h=>by
  simp only[S.ok,aU]at h;have:=hx c h.1;have:=S.lens x hx b h.2 [123,32]
  exact zaH
 |.if2 c b t,h=>by
  simp only[S.ok,aU]at h;have:=hx c h.1;have:=S.lens x hx b h.2.1 [123,32];have:=S.lens x hx t h.2.2 [123,32];rw[S.bP,S.tree,wt];simp only[gy,wt,bf,length_cons,length_nil]at *;omega
 |.while_ c b,h=>by
  simp only[S.ok,aU]at h;have:=hx c h.1;have:=S.lens x hx b h.2 [123,32]
  exact zaH
 |.ret a,h=>by
  simp only[S.ok]at h
  exact zaH
 |.do_ a,h=>by
  simp only[S.ok]at h
  exact zaH
 |.var s a,h=>by
  simp only[S.ok,aU]at h
  exact zaH
theorem S.lens(x:E->ai)(hx:∀a:E,a.ok=true->(x a).length+4<=wt a.tree):∀l:List S,S.dF l=true->∀H:ai,(S.ei x H l).length<=H.length+gy (S.aM l)
 |[],_,H=>by grind[ei]
 |a::l,h,H=>by
  simp only[S.dF,aU]at h;have M:=S.len x hx a h.1;have v:=S.lens x hx l h.2 ((H++a.bP x)++[32]);rw[S.ei,S.aM,gy];simp only[bf,length_cons,length_nil]at v;omega
end
def s0(x:E->ai)(hx:∀a:E,a.ok=true->(x a).length+4<=wt a.tree){l:List S}(h:S.dF l=true):(ir x l).length<=wt (cy l):=by
 grind[S.lens,bf,length_cons,length_nil,ir,wt,cy]
end Go.Xp
namespace Go.Im
open Go.Xp Go.Sp
def qZ(g:Nat->Option (T × Nat)):List Int->Nat->List T->Option (List T × Nat)
 |[],next,H=>some (H,next)
 |k::r,next,H=>if k=(next:Int)then match g next with
  |none=>none
  |some (t,e)=>qZ g r e (H++[t])
  else none
def pD(ah:List Nd):Nat->Nat->Option (T × Nat)
 |0,_=>none
 |f+1,a=>match ah[a]? with
  |none=>none
  |some n=>match qZ (pD ah f) n.au (a+1) []with
   |none=>none
   |some (l,e)=>if n.at_<0 then none else some (.mk n l,e)
def tr(ah:List Nd)(a:Nat):Option (T × Nat):=pD ah (ah.length+1) a
def Hh{ah:List Nd}{g:Nat->Option (T × Nat)}(hg:∀a t e,g a=some (t,e)->a<e/\e<=ah.length/\e=a+bc t/\(ah.take e).drop a=jC a t) :
  ∀(ks:List Int)(next:Nat)(H l:List T)(e:Nat),next<=ah.length->qZ g ks next H=some (l,e)->∃V,l=H++V/\e=next+aR V/\e<=ah.length/\ks=bQ next V/\(ah.take e).drop next=ey next V
 |[],next,H,l,e,W,h=>by
  grind[qZ,jF,mr,kr,aR,bQ,ey]
 |k::r,next,H,l,e,W,h=>by
  rw[qZ]at h;split at h
  ·rename_i n
   cases m:g next with
   |none=>grind
   |some x =>
    have⟨t,i⟩:=x;rw[m]at h;simp only at h;have⟨a1,M,s,N⟩:=hg _ _ _ m;have⟨V,J,u,z,R,j⟩:=Hh hg r i (H++[t]) l e M h
    grind[aR,bQ,ey]
  ·cases h
def Au{ah:List Nd}:∀(f a:Nat)(t:T)(e:Nat),pD ah f a=some (t,e)->a<e/\e<=ah.length/\e=a+bc t/\(ah.take e).drop a=jC a t
 |0,a,t,e,h=>by cases h
 |f+1,a,t,e,h=>by
  rw[pD]at h
  cases V:ah[a]? with
  |none=>grind
  |some n =>
   rw[V]at h;simp only at h;have M:=(bR V).1
   cases k:qZ (pD ah f) n.au (a+1) []with
   |none=>grind
   |some x =>
    have⟨l,j⟩:=x;rw[k]at h;simp only at h;split at h
    ·cases h
    ·cases h;have⟨W,H,s,z,R,i⟩:=Hh (Au f) n.au (a+1) [] l e M k
     have:W=l:=by grind
     subst this;refine⟨by omega,z,by rw[bc];omega,?_⟩;rw[jC,<-R,<-i]
     have N:(ah.take e)[a]?=some n:=by grind
     have⟨v,w⟩:=bR N;rw[l8 v,w]
def j3(ah:List Nd):List Fn->Nat->List T->Option (List T × Nat)
 |[],next,H=>some (H,next)
 |f::r,next,H=>match tr ah next with
  |none=>none
  |some (t,e)=>if f.body=(next:Int)then j3 ah r e (H++[t])else none
def c7(k:Int)(n:Nat):Bool :=
 if k=1\/k=2 then((n:Int)==0)
 else if k=4\/k=14 then true
 else if k=3\/k=5\/k=7\/k=11\/k=12\/k=13 then((n:Int)==1)
 else if k=6\/k=8\/k=10 then((n:Int)==2)
 else if k=9 then((n:Int)==2) ||((n:Int)==3)
 else false
mutual
def eY:T->Bool
 |.mk n l=>c7 n.ab l.length&&qB l
def qB:List T->Bool
 |[]=>true
 |t::r=>eY t&&qB r
end
def xV(t:T):eY t=(c7 t.n.ab t.au.length&&qB t.au):=by cases t;rfl
theorem oy(l:List T):qB l=l.all eY:=by
 induction l with
 |nil=>rfl
 |cons t l O=>grind[qB]
mutual
def dW(ah:List Nd):Nat->T->Prop
 |a,.mk n l=>ah[a]?=some n/\n.au=bQ (a+1) l/\dQ ah (a+1) l
def dQ(ah:List Nd):Nat->List T->Prop
 |_,[]=>True
 |a,t::r=>dW ah a t/\dQ ah (a+bc t) r
end
mutual
def xl:T->Prop
 |.mk n l=>0<=n.at_/\mc l
def mc:List T->Prop
 |[]=>True
 |t::r=>xl t/\mc r
end
theorem iO(t:T):1<=bc t:=by simp[fC]
mutual
theorem dW.le{ah:List Nd}:∀(t:T)(a:Nat),dW ah a t->a+bc t<=ah.length
 |.mk n l,a,h=>by
  rw[dW]at h;have M:=(bR h.1).1;have:=dQ.le l (a+1) h.2.2 M;rw[bc];omega
theorem dQ.le{ah:List Nd}:∀(l:List T)(a:Nat),dQ ah a l->a<=ah.length->a+aR l<=ah.length
 |[],a,h,z=>by grind[aR]
 |t::r,a,h,z=>by
  rw[dQ]at h;have M:=dW.le t a h.1;have:=dQ.le r _ h.2 M;rw[aR];omega
end
section
variable{ah:List Nd}
theorem I2:∀(f:Nat),(∀(a d:Nat)(e:Int),pj ah f a d=some e->0<=e->∃t,dW ah a t/\e=((a+bc t:Nat):Int)) /\
  (∀(ks:List Int)(next d:Nat)(e:Int),ph ah f ks (next:Int) d=some e->0<=e->∃l,dQ ah next l/\ks=bQ next l/\e=((next+aR l:Nat):Int)):=by
 intro f
 induction f with
 |zero =>
  refine⟨fun a d e h _=>by simp[pj]at h,fun ks next d e h _=>?_⟩
  cases ks with
  |nil=>rw[ph]at h;grind[dQ,bQ,aR]
  |cons k r=>simp[ph]at h
 |succ f O =>
  refine⟨fun a d e h R=>?_,fun ks next d e h R=>?_⟩
  ·rw[pj]at h;split at h
   ·grind
   ·cases T:ah[a]? with
    |none=>grind
    |some n =>
     rw[T]at h;simp only at h;rw[show((a:Int)+1)=((a+1:Nat):Int) by omega]at h;have⟨l,M,v,w⟩:=O.2 _ _ _ _ h R;exact⟨.mk n l,by grind[dW],by grind[bc]⟩
  ·cases ks with
   |nil=>rw[ph]at h;grind[dQ,bQ,aR]
   |cons k r =>
    rw[ph]at h;split at h
    ·rename_i o;subst o;rw[dC]at h
     cases m:pj ah f next (d+1)with
     |none=>grind
     |some i =>
      rw[m]at h;simp only at h;split at h
      ·grind
      ·rename_i s;have⟨t,M,v⟩:=O.1 _ _ _ m aI;subst v;have⟨l,w,N,S⟩:=O.2 _ _ _ _ h R;refine⟨t::l,by grind[dQ],by grind[bQ],by grind[aR]⟩
    grind
theorem ue:∀(f:Nat),(∀(t:T)(a:Nat),dW ah a t->2*bc t<=f->sub ah f a=some t) /\
  (∀(l:List T)(a:Nat)(H:List T),dQ ah a l->2*aR l+1<=f->po ah f (bQ a l) H=some (H++l)):=by
 intro f
 induction f with
 |zero =>
  grind[iO]
 |succ f O =>
  refine⟨fun t a q h=>?_,fun l a H q h=>?_⟩
  ·have⟨n,l⟩:=t
   grind[dW,bc,sub]
  ·cases l with
   |nil=>rw[bQ,po];simp
   |cons t l =>
    rw[dQ]at q;rw[aR]at h;have:=iO t
    grind[po,bQ]
theorem Yz:∀(f:Nat)(t:T)(a:Nat),dW ah a t->xl t->bc t<=f->pD ah f a=some (t,a+bc t):=by
 intro f
 induction f with
 |zero=>grind[iO]
 |succ f O =>
  intro t a q z h;have⟨n,l⟩:=t
  have c:∀(l:List T)(a:Nat)(H:List T),dQ ah a l->mc l->aR l<=f->qZ (pD ah f) (bQ a l) a H=some (H++l,a+aR l):=by
   intro l
   induction l with
   |nil=>intro a H _ _ _;rw[bQ,qZ,aR];simp
   |cons t l d =>
    intro a H q z h;rw[dQ]at q;rw[mc]at z
    grind[qZ,pD,bQ,aR]
  rw[dW]at q;rw[xl]at z
  grind[pD,bc]
theorem Yn:∀(f:Nat)(t:T)(a e:Nat),pD ah f a=some (t,e)->dW ah a t/\e=a+bc t/\xl t:=by
 intro f
 induction f with
 |zero=>grind[pD]
 |succ f O =>
  intro t a e h
  have c:∀(z:List Int)(next:Nat)(H l:List T)(e:Nat),qZ (pD ah f) z next H=some (l,e)->∃V,l=H++V/\dQ ah next V/\z=bQ next V/\e=next+aR V/\mc V:=by
   intro z
   induction z with
   |nil=>intro next H l e h;rw[qZ]at h;grind[dQ,bQ,aR,mc]
   |cons k r d =>
    intro next H l e h
    grind[qZ,pD,dQ,bQ,aR,mc]
  grind[pD,qZ,dW,bc,xl]
theorem Un(V:ah.length<=800):∀(f:Nat),(∀(t:T)(a d:Nat),dW ah a t->d<=a->2*bc t<=f->pj ah f a d=some ((a+bc t:Nat):Int)) /\
  (∀(l:List T)(a d:Nat),dQ ah a l->d<a->2*aR l+1<=f->ph ah f (bQ a l) (a:Int) d=some ((a+aR l:Nat):Int)):=by
 intro f
 induction f with
 |zero =>
  grind[iO]
 |succ f O =>
  refine⟨fun t a d q F h=>?_,fun l a d q F h=>?_⟩
  ·have⟨n,l⟩:=t;rw[dW]at q;rw[bc]at h |-;have M:=(bR q.1).1;rw[pj,D aI,q.1];simp only;rw[show((a:Int)+1)=((a+1:Nat):Int) by omega,q.2.1,O.2 l (a+1) d q.2.2 aI aI]
   grind
  ·cases l with
   |nil=>rfl
   |cons t l =>
    rw[dQ]at q;rw[aR]at h |-;have:=iO t;rw[bQ,ph,ae rfl,dC,O.1 t a (d+1) q.1 aI aI];simp only;rw[D aI,O.2 l _ d q.2 aI aI]
    grind
theorem Ni:∀(f:Nat),(∀(a d:Nat),2*(ah.length-a)+1<=f->∃e,pj ah f a d=some e/\(0<=e->(a:Int)<e/\a<ah.length)) /\
  (∀(ks:List Int)(next d:Nat),2*(ah.length-next)+2<=f->∃e,ph ah f ks (next:Int) d=some e/\(0<=e->(next:Int)<=e)):=by
 intro f
 induction f with
 |zero=>simp
 |succ f O =>
  refine⟨fun a d h=>?_,fun ks next d h=>?_⟩
  ·rw[pj];split
   ·simp
   ·rename_i o
    cases T:ah[a]? with
    |none=>grind
    |some n =>
     simp only;rw[show((a:Int)+1)=((a+1:Nat):Int) by omega];have⟨e,M,v⟩:=O.2 n.au (a+1) d aI
     grind
  ·cases ks with
   |nil=>simp[ph]
   |cons k r =>
    rw[ph];split
    ·rename_i l;subst l;rw[dC]
     have⟨e,M,v⟩:=O.1 next (d+1) aI
     rw[M];simp only;split
     ·simp
     ·rename_i s;have w:=v aI;obtain⟨m,rfl⟩:∃m:Nat,e=(m:Int):=⟨e.toNat,by omega⟩;have⟨u,N,S⟩:=O.2 r m d aI
      grind
    simp
end
def gE(Q:Fn->T->Prop):List Fn->Nat->List T->Prop
 |[],_,[]=>True
 |f::r,a,t::l=>f.body=(a:Int)/\Q f t/\gE Q r (a+bc t) l
 |_,_,_=>False
def gE.len{Q:Fn->T->Prop}:∀{ak:List Fn}{a:Nat}{l:List T},gE Q ak a l->ak.length=l.length
 |[],_,[],_=>rfl
 |f::r,a,t::l,h=>by rw[gE]at h;rw[length_cons,length_cons,gE.len h.2.2]
 |[],_,t::l,h=>by cases h
 |f::r,_,[],h=>by cases h
theorem gE.mono{Q R:Fn->T->Prop}:∀{ak:List Fn}{a:Nat}{l:List T},gE Q ak a l->(∀f t,f∈ak->t∈l->Q f t->R f t)->gE R ak a l
 |[],_,[],_,_=>trivial
 |f::r,a,t::l,h,m=>by
  rw[gE]at h |-;exact⟨h.1,m _ _ mem_cons_self mem_cons_self h.2.1,gE.mono h.2.2 fun f t s o=>m f t (ew _ s) (ew _ o)⟩
 |[],_,t::l,h,_=>by cases h
 |f::r,_,[],h,_=>by cases h
def gE.at_{Q:Fn->T->Prop}:∀{ak:List Fn}{a:Nat}{l:List T},gE Q ak a l->∀(i:Nat)f t,ak[i]?=some f->l[i]?=some t->f.body=((a+aR (l.take i):Nat):Int)/\Q f t
 |[],_,[],_,i,f,t,M,v=>by simp at M
 |f::r,a,t::l,h,i,B,b,M,v=>by
  rw[gE]at h
  cases i with
  |zero=>cases M;cases v;rw[List.take_zero,aR];exact⟨h.1,h.2.1⟩
  |succ i =>
   have⟨C,L⟩:=gE.at_ h.2.2 i B b zfc zfq;exact⟨by rw[C,List.take_succ_cons,aR];omega,L⟩
 |[],_,t::l,h,_,_,_,_,_=>by cases h
 |f::r,_,[],h,_,_,_,_,_=>by cases h
structure P7(f:Fn)(t:T):Prop where
 name:bY f.name=true
 params:dy f.params=true
 ab:t.n.ab=14
 all:ef t=true
section
variable{ah:List Nd}
theorem zo:∀(ak:List Fn)(next:Nat)(e:Int),jl ah ak (next:Int)=some (some e)->∃l,dQ ah next l/\gE P7 ak next l/\e=((next+aR l:Nat):Int)
 |[],next,e,h=>by rw[jl]at h;grind[dQ,gE,aR]
 |f::r,next,e,h=>by
  rw[jl,dC]at h
  cases T:pj ah (fN ah) next 0 with
  |none=>grind
  |some i =>
   rw[T]at h;simp only at h;split at h
   ·cases h
   ·rename_i k;split at h
    ·cases h
    ·rename_i A;have⟨t,M,v⟩:=(I2 _).1 _ _ _ T aI;have V:=dW.le t _ M;rw[(ue _).1 t next M zfr]at h;simp only at h;split at h
     ·cases h
     ·rename_i m;subst v;have⟨l,B,L,u⟩:=zo r _ e h;refine⟨t::l,by grind[dQ],?_,by grind[aR]⟩;rw[gE];refine⟨by omega,⟨?_,?_,?_,?_⟩,L⟩
      ·grind
      ·grind
      ·omega
      grind
theorem zn(V:ah.length<=800):∀(ak:List Fn)(next:Nat)(l:List T),dQ ah next l->gE P7 ak next l->jl ah ak (next:Int)=some (some ((next+aR l:Nat):Int))
 |[],next,[],_,_=>by rfl
 |f::r,next,t::l,h,s=>by
  rw[dQ]at h;rw[gE]at s;have W:=dW.le t _ h.1;rw[jl,dC,(Un V _).1 t next 0 h.1 (bg _) zfr];simp only;rw[D (by rw[s.2.1.name];grind),D (by rw[s.2.1.params];decide),(ue _).1 t next h.1 zfr];simp only;rw[D (by rw[s.2.1.all];rintro(h|h);exact h s.2.1.ab;cases h),zn V r _ l h.2 s.2.2,aR]
  grind
 |[],_,t::l,_,h=>by cases h
 |f::r,_,[],_,h=>by cases h
def xm:∀(ak:List Fn)(next:Nat),∃r,jl ah ak (next:Int)=some r
 |[],next=>⟨_,by rw[jl]⟩
 |f::r,next=>by
  have⟨e,M,v⟩:=(Ni (ah:=ah) (fN ah)).1 next 0 zfr
  rw[jl,dC,M];simp only;split
  ·simp
  ·rename_i k;split
   ·simp
   ·have⟨t,B,L⟩:=(I2 _).1 _ _ _ M aI;have V:=dW.le t _ B;rw[(ue _).1 t next B zfr];simp only;split
    ·simp
    ·rw[L];exact xm r _
end
def L4(p:Src):∃b,oZ p=some b:=by
 unfold oZ;split
 ·simp
 ·split
  ·simp
  ·have⟨r,h⟩:=xm (ah:=p.ah) p.ak 0;rw[show((0:Nat):Int)=0 from rfl]at h;rw[h]
   cases r<;>exact⟨_,rfl⟩
structure iq(p:Src)(l:List T):Prop where
 ax:dy p.ax=true
 aq:p.aq.all nZ=true
 st:dQ p.ah 0 l
 ak:gE P7 p.ak 0 l
 len:aR l=p.ah.length
 few:p.ah.length<=800
def Vx{p:Src}(h:oZ p=some true):∃l,iq p l:=by
 unfold oZ at h;split at h
 ·cases h
 ·rename_i M;split at h
  ·cases h
  ·rename_i v;rw[show(0:Int)=((0:Nat):Int)from rfl]at h
   cases s:jl p.ah p.ak ((0:Nat):Int)with
   |none=>grind
   |some r =>
    rw[s]at h
    cases r with
    |none=>cases h
    |some e =>
     have⟨l,B,L,t⟩:=zo _ _ _ s;simp only[Option.some.injEq,aU,beq_iff_eq,decide_eq_true_eq]at h;exact⟨l,by grind,by grind,B,L,by omega,by omega⟩
def iq.oZ{p:Src}{l:List T}(h:iq p l):oZ p=some true:=by
 unfold Go.Sp.oZ;rw[D (by rw[h.ax];decide),D (by rw[h.aq];decide),show(0:Int)=((0:Nat):Int)from rfl,zn h.few _ _ _ h.st h.ak];simp only[Option.some.injEq,aU,beq_iff_eq,decide_eq_true_eq];have:=h.len;have:=h.few;omega
def BZ{ah:List Nd}:∀(ak:List Fn)(next:Nat)(H l:List T)(e:Nat),j3 ah ak next H=some (l,e)->∃V,l=H++V/\dQ ah next V/\gE (fun _ _=>True) ak next V/\e=next+aR V/\mc V
 |[],next,H,l,e,h=>by rw[j3]at h;grind[dQ,gE,aR,mc]
 |f::r,next,H,l,e,h=>by
  rw[j3]at h
  cases m:tr ah next with
  |none=>grind
  |some x =>
   have⟨t,j⟩:=x;rw[m]at h;simp only at h;split at h
   ·rename_i v;have⟨a1,M,s⟩:=Yn _ _ _ _ m;subst M;have⟨V,J,u,z,R,i⟩:=BZ r _ _ _ _ h
    grind[dQ,gE,aR,mc]
   ·cases h
def IG{ah:List Nd}{Q:Fn->T->Prop}:∀(ak:List Fn)(next:Nat)(H l:List T),dQ ah next l->gE Q ak next l->mc l->j3 ah ak next H=some (H++l,next+aR l)
 |[],next,H,[],_,_,_=>by rw[j3,aR];simp
 |f::r,next,H,t::l,h,s,z=>by
  rw[dQ]at h;rw[gE]at s;rw[mc]at z;have V:=dW.le t _ h.1;rw[j3,tr,Yz _ t next h.1 z.1 aI];simp only;rw[ae s.1,IG r _ _ l h.2 s.2.2 z.2,aR]
  grind
 |[],_,_,t::l,_,h,_=>by cases h
 |f::r,_,_,[],_,h,_=>by cases h
mutual
def dW.fl{ah:List Nd}:∀(t:T)(a:Nat),dW ah a t->(ah.take (a+bc t)).drop a=jC a t
 |.mk n l,a,h=>by
  have V:=dW.le _ _ h;rw[dW]at h;rw[bc]at V;have M:=dQ.fl l (a+1) h.2.2 aI;rw[jC,<-h.2.1,<-M,bc,show a+(aR l+1)=a+1+aR l by omega]
  have v:(ah.take (a+1+aR l))[a]?=some n:=by grind
  have⟨w,N⟩:=bR v;rw[l8 w,N]
def dQ.fl{ah:List Nd}:∀(l:List T)(a:Nat),dQ ah a l->a<=ah.length->(ah.take (a+aR l)).drop a=ey a l
 |[],a,h,z=>by
  simp[aR,ey]
 |t::r,a,h,z=>by
  rw[dQ]at h;have V:=dW.le _ _ h.1;have M:=dW.fl t a h.1;have v:=dQ.fl r (a+bc t) h.2 V;have w:=dQ.le r _ h.2 V;rw[ey,<-M,<-v,aR,show a+(bc t+aR r)=a+bc t+aR r by omega]
  grind[Nat.min_eq_left,kr,List.take_append_drop]
end
def dQ.all{ah:List Nd}{l:List T}(h:dQ ah 0 l)(V:aR l=ah.length):ah=ey 0 l:=by
 have:=dQ.fl l 0 h (bg _)
 grind
end Go.Im
