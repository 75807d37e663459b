/- Part 1 of proofs that are told in their last texts. -/
open List (getElem?_append getElem?_cons_zero getElem?_eq_none length_cons length_nil mem_cons_self mem_map tail_cons take_append_drop)
set_option linter.unusedVariables false
set_option linter.unusedSimpArgs false
set_option linter.defProp false
set_option maxRecDepth 100000
namespace Go
section
variable{A B:Prop}
def zaa(h:B)(s:PLift B->A:=by intro hQ;refine jF ?_;refine GL.wk (Wk.freeze (i:=0) rfl rfl rfl (bp _)) ?_;refine GL.wk (Wk.freeze (i:=1) rfl rfl rfl (bp _)) ?_;refine GN (by simp only[nZ,nG];rfl) ?_;refine I ?_;exact hQ.1):A:=s ⟨h⟩
def zac(h:B)(s:PLift B->A:=by intro hQ;refine bT ?_;refine I ?_;exact hQ.1):A:=s ⟨h⟩
def zad(h:B)(s:PLift B->A:=by intro hQ;refine bb ?_;refine I ?_;exact hQ.1):A:=s ⟨h⟩
def zae(s:A:=by refine au func137 ntmps137 ?_;refine D [] j ?_;refine GL.borrow k (fun B K r w l d b=>oU (A:=[_,_,_]) (C:=[]) d b rfl rfl rfl) ?_;refine bb ?_;exact dF):A:=s
def zaf(s:A:=by generalize tok p 0=tk at *;refine aV (aL 0 45 (.a 45 (.q 46 .nil))) ?_;refine bn ?_;exact fV):A:=s
def zag(h:B)(s:PLift B->A:=by intro hQ;refine a7 [0,1,2,3,4,5,6] j ?_;refine I ?_;refine a7 [0,1,5,6] o ?_;refine I ?_;refine a7 [0,1,2,3,4,5,6] m ?_;refine I ?_;exact hQ.1):A:=s ⟨h⟩
def zah(s:A:=by exact⟨rfl,rfl⟩):A:=s
def zai(s:A:=by refine I ?_;have W:=eJ s G;rw[o]at W;refine D [] W ?_;exact ay):A:=s
def zaj(s:A:=by refine au func232 ntmps232 ?_;refine a7 [0,1,2,3,4,5,6] j ?_;refine I ?_;refine a7 [0,1,5,6] A ?_;exact dF):A:=s
def zak(s:A:=by refine au func298 ntmps298 ?_;refine zac ?_;refine D [] i ?_;refine D [] Q ?_;refine D [] n ?_;exact eA):A:=s
def zal(h:B)(s:PLift B->A:=by intro hQ;refine jF ?_;refine GL.wk (Wk.freeze (i:=2) rfl rfl rfl (aY _)) ?_;refine GN (by simp only[nZ,nG];rfl) ?_;refine GL.wk (Wk.aZ (dh:=[U,.v (ii (i:Nat)),U,.box (aB p) 0,U,.loc 3 0,U,U,U,U,U,U,U,strs f.params,U,U,U,U,U,U,U,U,U,U]) az) ?_;refine GL.wk (Wk.gz 9 1) ?_;exact hQ.1):A:=s ⟨h⟩
def zam(s:A:=by rw[t];exact⟨x,⟨_,_,Wk.aZ az,_,_,rfl,rfl,by omega,j,o,e⟩,by omega⟩):A:=s
def zan(s:A:=by have⟨⟨w,c,m,k,u⟩,l⟩:=t;have⟨o,b,G,M⟩:=fx O;simp only at o b G;subst o b G;obtain⟨x,rfl,hx⟩:=wB M;simp only[E.ok,aI]at A;rw[E.tree,wt]at i;simp only[gI,lim]at i;have W:=C x A.2 hx (by grind);have N:=(E.len a A.2).2;have v:(bj [x])[0]?=some (cT x):=dG rfl;rw[E.full];generalize a.full=y at *;simp only[cT,T.n,T.aw]at |-;refine au func322 ntmps322 ?_;refine aV (aL 0 8 (.a 8 (aL 9 3 .nil))) ?_;refine ax ?_;refine aP [] W ?_;exact aK):A:=s
def zap(h:B)(s:PLift B->A:=by intro hQ;refine cM ?_;refine ax ?_;exact hQ.1):A:=s ⟨h⟩
def zaq(h:B)(s:PLift B->A:=by intro hQ;refine zad ?_;refine GL.q (YG.tI rfl) ?_;refine zad ?_;refine GL.q (YG.Gn (b:=32) rfl rfl aR) ?_;refine bb ?_;refine GL.q (YG.Cb rfl V) ?_;exact hQ.1):A:=s ⟨h⟩
def zar(s:A:=by refine au func298 ntmps298 ?_;refine zac ?_;refine D [] i ?_;refine zac ?_;refine D [] z ?_;refine D [] Q ?_;exact eA):A:=s
def zas(h:B)(s:PLift B->A:=by intro hQ;refine ch ?_;refine I ?_;exact hQ.1):A:=s ⟨h⟩
def zat(h:B)(s:PLift B->A:=by intro hQ;refine D [0] E ?_;refine D [0] j ?_;refine D [0] A ?_;refine D [0] B ?_;refine D [0] F ?_;exact hQ.1):A:=s ⟨h⟩
def zau(s:A:=by simp only[List.map_cons,map_nil,getD_cons_zero,getD_cons_succ,br,length_cons,length_nil]at e |-;have C:=r b (by grind) V;generalize w a=x at *;generalize ko w inl d b=y at *;clear r j ih;generalize cW [a,b]=u at *;refine dc func245 ntmps245 ?_;refine zaa ?_;refine aV (.q 0 (aL 4 8 (.a 1 (.q 2 (.q 3 (.a 12 (.q 13 (.q 14 .nil)))))))) ?_;refine ax ?_;refine oK [] s ?_;refine ax ?_;refine aP [] C ?_;exact aK):A:=s
def zav(s:A:=by have⟨⟨z,d,m,k,B⟩,l⟩:=t;have⟨o,c,G,M⟩:=fx N;simp only at o c G;subst o c G;obtain⟨u,rfl,F⟩:=wB M;simp only[S.ok]at A;rw[S.tree,wt]at i;simp only[gI,lim]at i;have v:=qM b (a:=a) A (by grind) u F;have q:=kv b a A;have w:(bj [u])[0]?=some (cT u):=dG rfl;rw[S.bS];generalize a.out b=O at *;simp only[cT,T.n,T.aw];refine au func203 ntmps203 ?_;refine D [] v ?_;exact ay):A:=s
def zaw(s:A:=by rw[S.tk]at M;obtain⟨t,r,rfl,o,_⟩:=map_cons M;exact⟨t,r,rfl,fun rest=>by rw[tq o];decide⟩):A:=s
def zax(s:A:=by refine I ?_;exact⟨_,_,Wk.aZ az,hH.next ⟨c,p,_,_,_,_,C,rfl,rfl,G,u,F,e,o⟩⟩):A:=s
def zay(s:A:=by have⟨C,E,j⟩:=j _ _ e;refine au func169 ntmps169 ?_;refine D [0] M ?_;refine D [0] B ?_;refine D [0] N ?_;refine aV (aL 0 24 .nil) ?_;refine bn ?_;refine D [0] O ?_;refine D [0] (kg b.next 7 b.next.place) ?_;refine D [0] C ?_;refine GL.kx 2 rfl rfl rfl rfl rfl rfl rfl rfl aQ np ?_;intro a c;refine dA ?_;refine I ?_;refine D [0] E ?_;refine ej ?_;exact j _ _ _ m):A:=s
def zaz(s:A:=by refine OA rfl rfl ?_;refine GL.oQ 1 rfl rfl rfl rfl H V ?_;intro o r;rw[J];refine cD ?_;simp only[nil_append,length_nil,dJ];refine ax ?_;exact bh ⟨_,_,Wk.aZ az,t,u,o,r,rfl,rfl⟩):A:=s
def zaA(s:A:=by exact⟨_,fJ,rfl,rfl⟩):A:=s
def zaB(h:B)(s:PLift B->A:=by intro hQ;refine D [0] (dz p 0 J aR) ?_;refine D [0] (da p.next [40] o aR) ?_;refine D [0] (xV (d+1) _ e A n V G) ?_;refine D [0] (da A [41] m aR) ?_;refine aV (aL 0 4 (.a 4 (.a 5 (.q 6 .nil)))) ?_;refine ax ?_;exact hQ.1):A:=s ⟨h⟩
def zaC(s:A:=by refine au func139 ntmps139 ?_;refine D [] q ?_;exact ay):A:=s
def zaD(s:A:=by refine au func36 ntmps36 ?_;refine D [0] o ?_;refine D [0] G ?_;exact ay):A:=s
def zaE(s:A:=by have e:=gB code 8 b B t;have C:=eL code b (n:=8) V;generalize bK code 8 b=a at *;have⟨j,r⟩:=a;simp only at e C |-;obtain⟨m,rfl⟩:∃m:Nat,j=(m:Int):=⟨j.toNat,by omega⟩;have T:=oD (l:=Bb) (m:=m) (by show m<8;omega);refine au func174 ntmps174 ?_;refine D [0] w ?_;refine zac ?_;refine D [0] e ?_;exact ay):A:=s
def zaF(h:B)(s:PLift B->A:=by intro hQ;refine I ?_;refine a7 [0,1,5,6] A ?_;exact hQ.1):A:=s ⟨h⟩
def zaG(h:B)(s:PLift B->A:=by intro hQ;refine D [] N ?_;refine D [] Q ?_;exact hQ.1):A:=s ⟨h⟩
def zaH(h:B)(s:PLift B->A:=by intro hQ;refine ax ?_;refine OQ rfl (YG.jh 7 rfl rfl rfl j o) ?_;refine jj ?_;refine ax ?_;exact hQ.1):A:=s ⟨h⟩
def zaI(h:B)(s:PLift B->A:=by intro hQ;refine I ?_;refine aV (aL 0 7 (.a 7 (aL 8 4 (.q 13 (.q 16 (.a 12 (.q 14 (.q 15 (.a 17 (.q 18 (.a 19 (.q 20 .nil)))))))))))) ?_;exact hQ.1):A:=s ⟨h⟩
def zaJ(s:A:=by refine D [] W ?_;refine bB ?_;exact⟨by rfl,rfl⟩):A:=s
def zaK(s:A:=by grind[S.bS,S.tree,gI,br,length_cons,length_nil,bS,wt,tree]):A:=s
def zaL(s:A:=by exact⟨_,_,d,⟨z,rfl,J⟩,.pass (x:=.inLoop c) rfl (fun _ _=>.inl (by simp)) T⟩):A:=s
def zaM(s:A:=by have⟨r,z,s⟩:=List.mem_flatten.1 (bP O);exact(C r z).2 g s):A:=s
def zaN(s:A:=by refine OA rfl rfl ?_;refine GL.KO (i:=7) rfl rfl rfl Xj rfl V ?_;refine cD ?_;refine ax ?_;refine zap ?_;refine lV ?_;refine bn ?_;exact⟨rfl,rfl,_,_,(Wk.cut (n:=6) (ek rfl) (by simp only[take_succ_cons,take_zero,kW,E,F,O,W1];rfl)).trans (Wk.aZ az),rfl,by rw[<-Ny,W3,dJ,<-WY,gJ];rfl⟩):A:=s
def zaO(h:B)(s:PLift B->A:=by intro hQ;refine cD ?_;refine bn ?_;refine cm ?_;exact hQ.1):A:=s ⟨h⟩
def zaP(h:B)(s:PLift B->A:=by intro hQ;refine aV (aL 0 10 .nil) ?_;refine bn ?_;exact hQ.1):A:=s ⟨h⟩
def zaQ(s:A:=by rw[<-o]at G |-;simp only[execOp,eqGuard,h,k,binOp,Op.intBits];exact congrArg (fun z:Int=>Result.ok (Next.value (Value.int .u32 z)) w) G):A:=s
def zaR(h:B)(s:PLift B->A:=by intro hQ;refine D [0] Z ?_;refine D [0] m ?_;refine D [0] O ?_;refine D [0] B ?_;exact hQ.1):A:=s ⟨h⟩
def zaS(s:A:=by unfold fY at F m;generalize S.eh (E.out b) [123,32] p++[125]=X at *;simp only[cT,T.n,T.aw];refine au func203 ntmps203 ?_;refine aV (aL 0 5 (aL 8 5 (.a 5 (.q 6 (.q 7 (.a 13 (.q 14 (.q 15 .nil)))))))) ?_;refine ax ?_;refine aP [] z ?_;refine aP [] F ?_;exact aK):A:=s
def zaT(s:A:=by exact⟨rfl,rfl,_,_,Wk.aZ az,rfl,rfl⟩):A:=s
def zaU(s:A:=by refine GL.kx 2 rfl rfl rfl rfl rfl rfl rfl rfl aQ np ?_;intro a c;refine dA ?_;rw[m,o];refine I ?_;refine zac ?_;refine D [0] (gg b [59] (hx { st with aq:=st.aq++[s] } { h with aG:=a,cG:=c }) d) ?_;refine cm ?_;exact⟨rfl,{ h with aG:=a,cG:=c },rfl⟩):A:=s
def zaV(s:A:=by have s:=j 0 a (by grind);rw[o]at e |-;rw[o]at s;simp only[List.map_cons,map_nil,getD_cons_zero,br,length_cons,length_nil]at e |-;generalize w a=x at *;generalize cW [a]=u at *;refine dc func245 ntmps245 ?_;refine zaa ?_;refine oJ [] s ?_;exact aK):A:=s
def zaW(s:A:=by refine aV (aL 0 7 (.a 7 (.a 8 (.a 9 (.q 10 .nil))))) ?_;refine ax ?_;refine aP [0] n ?_;refine zap ?_;refine aP [] e ?_;exact aK):A:=s
def zaY(h:B)(s:PLift B->A:=by intro hQ;refine nY ?_;refine GL.Ae rfl rfl rfl rfl rfl rfl rfl ?_;exact hQ.1):A:=s ⟨h⟩
def zaZ(h:B)(s:PLift B->A:=by intro hQ;refine I ?_;refine aV (aL 0 10 (.a 10 (.q 11 (.q 12 .nil)))) ?_;exact hQ.1):A:=s ⟨h⟩
def za0(s:A:=by obtain⟨g,rfl,o,j⟩:=pN z;rw[iS,u,ak A.code,ae F,ae J,ae R,ae B,H g j];grind):A:=s
def za1(h:B)(s:PLift B->A:=by intro hQ;rw[rs,ae aH];simp only;rw[ae (by rw[j];decide),ak (.inl j),tail_cons,k2];exact hQ.1):A:=s ⟨h⟩
def za3(h:B)(s:PLift B->A:=by intro hQ;refine I ?_;refine aV (aL 0 8 (.a 8 (.q 9 (.q 10 .nil)))) ?_;refine ax ?_;refine cH [] hA ?_;exact hQ.1):A:=s ⟨h⟩
def za4(s:A:=by rw[ak hx]at h;have⟨y,u,d,h⟩:=c8 h;simp only[Option.some.injEq,Prod.mk.injEq]at h;obtain⟨rfl,rfl⟩:=h;exact ST V (tu i J j (fun h=>absurd h e) fun E=>.inl ⟨hx,y,acm 1 _ _ _ y g V (lM V) z E d⟩)):A:=s
def za5(s:A:=by exact e9 (q a) fun v t N=>eO (fun _=>⟨_,_,rfl,N⟩) fun _=>⟨_,_,rfl,N⟩):A:=s
def za6(h:B)(s:PLift B->A:=by intro hQ;refine aV (aL 0 13 (.a 13 (.q 14 .nil))) ?_;refine ax ?_;refine aP [] m ?_;refine I ?_;refine a7 [0,1,2,3,4,5,6] o ?_;refine zaF ?_;exact hQ.1):A:=s ⟨h⟩
def za8(s:A:=by refine zad ?_;refine GL.q (YG.El rfl) ?_;refine bb ?_;refine GL.q (YG.E3 rfl (nt _)) ?_;refine bb ?_;exact aK):A:=s
def za9(h:B)(s:PLift B->A:=by intro hQ;refine D [] m ?_;refine zaG ?_;refine D [] e ?_;refine bB ?_;exact hQ.1):A:=s ⟨h⟩
def zba(s:A:=by refine WL.val (v:=.slice (some ⟨w.heap.size,0,none⟩) n n) (w':=w') (by simp[execOp,T,hr]) ?_;exact h _ _ B K _ w' _ hm C ((Y.mono (dm.refl K) (iV (by rw[Z.out _ (aY _)];trivial))).put (some J) (.v _))):A:=s
def zbb(h:B)(s:PLift B->A:=by intro hQ;refine I ?_;refine bB ?_;exact hQ.1):A:=s ⟨h⟩
def zbc(h:B)(s:PLift B->A:=by intro hQ;simp only[cons_append,nil_append];exact hQ.1):A:=s ⟨h⟩
def zbd(s:A:=by refine I ?_;refine GL.kx 0 rfl rfl rfl rfl rfl rfl rfl rfl aQ np ?_;intro G M;refine dA ?_;refine I ?_;exact⟨rfl,rfl,_,_,(Wk.cut (n:=2) (bp _) rfl).trans (Wk.aZ az),G,M,_,_,rfl,rfl,by simp[O],l.symm⟩):A:=s
def zbe(s:A:=by refine au func230 ntmps230 ?_;refine zag ?_;refine a7 [0,1,5,6] b ?_;refine I ?_;refine D [] i ?_;exact ay):A:=s
def zbf(h:B)(s:PLift B->A:=by intro hQ;refine aV (aL 0 21 (.a 21 (aL 22 13 (.a 35 (.q 36 (.q 37 .nil)))))) ?_;exact hQ.1):A:=s ⟨h⟩
def zbg(h:B)(s:PLift B->A:=by intro hQ;refine I ?_;refine aV (aL 0 4 (.a 4 (.q 5 (.q 6 (.a 7 .nil))))) ?_;refine ax ?_;refine mA [0] H ?_;simp only[eT];refine zaH ?_;exact hQ.1):A:=s ⟨h⟩
def zbh(h:B)(s:PLift B->A:=by intro hQ;refine zab ?_;refine GL.k0 rfl rfl ?_;refine bb ?_;refine GL.k0 rfl rfl ?_;refine zad ?_;exact hQ.1):A:=s ⟨h⟩
def zbi(s:A:=by refine au func139 ntmps139 ?_;refine D [] q ?_;refine D [] t ?_;exact ay):A:=s
def zbj(s:A:=by refine au func298 ntmps298 ?_;refine D [] Q ?_;exact eA):A:=s
def zbk(s:A:=by refine aV (aL 0 33 (.a 33 (.q 34 (.q 35 .nil)))) ?_;refine ax ?_;exact bh ⟨_,_,Wk.aZ az,rfl,rfl⟩):A:=s
def zbl(s:A:=by rw[ak rfl];have e:=u b t;have N:=mN code d b;generalize jG code d b=a at *;have⟨s,r⟩:=a;simp only at e N |-;refine au func174 ntmps174 ?_;refine D [0] w ?_;refine D [0] e ?_;exact ay):A:=s
def zbm(h:B)(s:PLift B->A:=by intro hQ;unfold gQ jw jM dY;rw[ae (show ¬(T.mk n l).n.s=_ from r),ae (show ¬(T.mk n l).n.s=_ from J),ae (show ¬(T.mk n l).n.s=_ from W)];show(match p.av.findIdx? (fun f:Go.Sp.Fn=>f.name==n.s)with|none=>_|some i=>_)=_;rw[hx];exact hQ.1):A:=s ⟨h⟩
def zbn(s:A:=by exact⟨_,_,Wk.aZ az,rfl,rfl,fun j x y h=>by omega⟩):A:=s
def zbo(s:A:=by subst b;refine I ?_;refine D [] w ?_;exact fV):A:=s
def zbp(s:A:=by simp only[cQ]at h;exact fw (a:=0) (b:=0) aH (q _ _) (fun v t y u=>eN Z (fun h=>by grind[Dq])) h):A:=s
def zbq(s:A:=by refine D [] W ?_;exact ay):A:=s
def zbr(s:A:=by rw[show(st.av.map rL).length+[rL (s,b)].length=(st.av++[(s,b)]).length by simp,<-wY rL st.av (s,b)];refine bn ?_;refine cm ?_;exact⟨rfl,{ h with aT:=Y,cT:=c3,aF:=Z,cF:=c4 },rfl⟩):A:=s
def zbs(h:B)(s:PLift B->A:=by intro hQ;refine I ?_;refine aV (aL 0 7 (.a 7 (.a 8 (.a 9 .nil)))) ?_;refine ax ?_;refine zap ?_;exact hQ.1):A:=s ⟨h⟩
def zbt(s:A:=by refine D [0] B ?_;refine zac ?_;refine D [0] hw ?_;refine D [0] o ?_;refine pO ?_;refine I ?_;refine zac ?_;refine D [0] u ?_;refine D [0] A ?_;refine eX ?_;refine I ?_;refine GL.wk (Wk.jx (t:=108) rfl rfl rfl rfl) ?_;refine dA ?_;refine D [] n ?_;exact ay):A:=s
def zbu(s:A:=by unfold mS at *;unfold dE at *;refine au func176 ntmps176 ?_;refine zaP ?_;refine a7 [0,1,2,3,4,5,6] W ?_;exact aK):A:=s
def zbv(s:A:=by refine ax ?_;exact aK):A:=s
def zbw(h:B)(s:PLift B->A:=by intro hQ;simp only[Bool.false_eq_true,if_false];exact hQ.1):A:=s ⟨h⟩
def zbx(h:B)(s:PLift B->A:=by intro hQ;simp only[nil_append,length_nil,dJ];exact hQ.1):A:=s ⟨h⟩
def zby(h:B)(s:PLift B->A:=by intro hQ;refine zaG ?_;refine D [] q ?_;refine D [] o ?_;refine D [] R ?_;refine D [] hg ?_;exact hQ.1):A:=s ⟨h⟩
def zbz(s:A:=by rw[S.ok,aI]at h;rw[S.tree,ky,eQ,eQ,eQ,ky];exact⟨.inr (.inr (.inr (.inr (.inr (.inr rfl))))),E.sg c h.1,⟨.inr (.inr (.inr (.inr (.inr (.inr rfl))))),S.rj b h.2⟩,trivial⟩):A:=s
def zbA(h:B)(s:PLift B->A:=by intro hQ;refine I ?_;refine aV (aL 0 6 (.q 7 (.q 10 (.a 6 (.q 8 (.q 9 (.a 11 (.a 12 (.q 13 .nil))))))))) ?_;refine ax ?_;refine cH [] jX ?_;refine cH [0] (dz p 0 W aR) ?_;refine cH [] (iR (levels.getD k []) (p.aJ 0) (Ct k N)) ?_;exact hQ.1):A:=s ⟨h⟩
def zbB(s:A:=by exact .inr ⟨x,rfl,c.tr (y:=.error x) S⟩):A:=s
def zbC(s:A:=by refine D [0] (da o [59] j aR) ?_;refine zac ?_;refine D [] (iT 12 at_ [] [e] _ pk) ?_;exact lJ):A:=s
def zbD(h:B)(s:PLift B->A:=by intro hQ;refine eX ?_;refine I ?_;exact hQ.1):A:=s ⟨h⟩
def zbE(h:B)(s:PLift B->A:=by intro hQ;refine oc nL (o5d _ _ _ _ _ _ _ _ _) ?_;refine I ?_;refine GL.st rfl (JM _ _ _ _ _ _ _ _) rfl rfl rfl rfl ?_;refine oc nL (o5b _ _ _ _ _ _ _ _ _) ?_;refine I ?_;refine GL.q (YG.Ab rfl (JM _ _ _ _ _ _ _ _) rfl rfl) ?_;exact hQ.1):A:=s ⟨h⟩
def zbF(s:A:=by refine⟨one (if is p 0 gy=true then 9 else 10) (tok p 0).at_ [] [c,b],q2,fun g z=>?_,by grind,O⟩;obtain⟨g,rfl,o,j⟩:=pN z;rw[iS,u,ak A.code,ae F,ak J,H g j];grind):A:=s
def zbG(s:A:=by unfold iu at l;unfold mS at *;unfold dE at *;refine au func232 ntmps232 ?_;refine a7 [0,1,2,3,4,5,6] j ?_;refine zaF ?_;refine I ?_;refine a7 [0,1,2,3,4,5,6] l ?_;exact dF):A:=s
def zbH(s:A:=by refine au func374 ntmps374 ?_;refine D [0] o ?_;refine aV (aL 0 17 .nil) ?_;refine bn ?_;refine D [0] (jY H e) ?_;refine D [0] (kg H 7 H.place) ?_;refine ql ?_;exact zaA):A:=s
def zbI(s:A:=by exact this.trans (dr (this.ok W) _)):A:=s
def zbJ(s:A:=by refine I ?_;exact⟨rfl,rfl,_,_,Wk.aZ az,rfl,rfl,by grind⟩):A:=s
def zbL(s:A:=by rw[i]at W;refine I ?_;refine D [] W ?_;exact⟨rfl,rfl,_,_,Wk.aZ az,rfl,rfl,by rw[dd,hx,List.any_append,m];simp only[Option.toList,any_cons,any_nil,i];rfl⟩):A:=s
def zbM(s:A:=by refine⟨s++t,by grind,?_⟩;rw[dP]at C |-;rw[br]at C |-;rw[<-mg];exact b.app C):A:=s
def zbN(s:A:=by have⟨o,_⟩:=fx M;simp only[T.n,o,nX];rfl):A:=s
def zbO(s:A:=by simp only[Option.some.injEq,Prod.mk.injEq,true_and]at h;subst h;unfold mS at *;unfold dE at *;refine I ?_;refine a7 [0,1,2,3,4,5,6] k ?_;refine zaF ?_;exact dF):A:=s
def zbP(s:A:=by refine GL.kx 1 rfl rfl rfl rfl rfl rfl rfl rfl aQ np ?_;intro o q;refine dA ?_;refine I ?_;exact⟨rfl,rfl,_,_,Wk.aZ az,o,q,_,_,_,rfl,rfl,by simp[d],e.symm⟩):A:=s
def zbQ(s:A:=by have:=M.len;have:=Di p i f t V (fun n h=>by have:=(W n h).2;omega) V V V o (by have:=(R f (bP o)).2.1;omega) V (by rw[j];exact Q) V;rw[j]at this;exact this):A:=s
def zbR(h:B)(s:PLift B->A:=by intro hQ;refine aV (aL 0 3 (.a 3 (.a 4 (.a 5 (.q 6 (.a 7 .nil)))))) ?_;refine ax ?_;exact hQ.1):A:=s ⟨h⟩
def zbS(s:A:=by rw[ak e]at h;simp only[Option.some.injEq,Prod.mk.injEq]at h;obtain⟨rfl,rfl⟩:=h;exact ST V (rO i (.inl Q) j (fun _=>rfl) fun h=>absurd h (by grind))):A:=s
def zbT(s:A:=by rw[S.ok,aI]at h;rw[S.tree,S.b8,S.tree,di,bE,bE,bE,jb _ _ _ _ aH aH,nc _ (oA l),E.iX l ls c h.1,E.y8,eT,di,jb _ _ _ _ aH aH,nc _ (oA l),S.mc l b ls h.2]):A:=s
def zbU(s:A:=by grind[Value.ownBlock]):A:=s
def zbV(s:A:=by rw[ak e]at h;simp only[Option.some.injEq,Prod.mk.injEq]at h;obtain⟨rfl,rfl⟩:=h;exact ST V (tu i J j (fun _=>rfl) fun h=>absurd h (by grind))):A:=s
def zbW(h:B)(s:PLift B->A:=by intro hQ;refine I ?_;refine GL.q (YG.vE rfl (X _ _ _ _ _) rfl) ?_;refine zad ?_;exact hQ.1):A:=s ⟨h⟩
def zbX(s:A:=by refine au func230 ntmps230 ?_;refine zag ?_;refine a7 [0,1,5,6] b ?_;exact aK):A:=s
def zbY(s:A:=by exact this.trans (b0 (this.ok G) aC)):A:=s
def zbZ(s:A:=by refine jF ?_;refine GL.wk (Wk.freeze (i:=1) rfl rfl rfl (bp _)) ?_;refine GN (by simp only[nZ,nG];rfl) ?_;refine I ?_;refine D [] h ?_;exact ay):A:=s
def zb0(h:B)(s:PLift B->A:=by intro hQ;refine dA ?_;refine I ?_;exact hQ.1):A:=s ⟨h⟩
def zb1(s:A:=by simp only[cQ]at h;exact ep Q (q _ _) (fun v t y u=>dX (bQ (z _)) (dX (bQ (z _)) (ep Q (q _ _) (fun v t y u=>dX (bQ (z _)) (bQ (z _)))))) h):A:=s
def zb2(s:A:=by refine au func207 ntmps207 ?_;refine aV (aL 0 7 (.a 7 (.q 8 .nil))) ?_;refine ax ?_;refine aP [] O ?_;refine I ?_;refine D [0] Q ?_;exact ay):A:=s
def zb3(s:A:=by rw[o]at G;refine I ?_;refine jW [] G ?_;refine I ?_;exact⟨rfl,rfl,_,_,(Wk.cut (n:=0) (aY _) rfl).trans (Wk.aZ az),rfl,rfl,ny t z H o⟩):A:=s
def zb4(h:B)(s:PLift B->A:=by intro hQ;refine eC ?_;refine I ?_;exact hQ.1):A:=s ⟨h⟩
def zb5(s:A:=by refine j4 du eb ?_;refine bn ?_;exact⟨_,_,Wk.aZ az,hH.put { x with s:=sg } hx rfl (by grind) (e.ah x (bP hx)) (fun _=>rfl) E u F e o⟩):A:=s
def zb6(h:B)(s:PLift B->A:=by intro hQ;refine GL.q (YG.tI rfl) ?_;refine zaq ?_;refine zad ?_;exact hQ.1):A:=s ⟨h⟩
def zb7(s:A:=by rw[E.bS,E.full,E.tree,wt];simp only[gI,br,length_cons,length_nil];omega):A:=s
def zb8(s:A:=by simp only[S.ok,aI]at h;have d:=E.iw c h.1;have G:=l6 c;have C:=S.vi b h.2;rw[S.tree,dC,c9,c9,c9,d,C];simp[cN,own,T.n,T.aw,bR];exact G):A:=s
def zb9(s:A:=by refine zas ?_;refine b6 [] (yv s V) ?_;rintro _ _⟨rfl,p,Z,b,l,d,rfl⟩;refine zas ?_;refine ej ?_;exact⟨M,p,S,by omega,d,rfl,rfl⟩):A:=s
def zca(s:A:=by refine au func200 ntmps200 ?_;refine D [] Q ?_;refine D [] c ?_;exact ay):A:=s
def zcb(s:A:=by refine au func230 ntmps230 ?_;refine a7 [0,1,2,3,4,5,6] j ?_;refine I ?_;refine a7 [0,1,5,6] o ?_;refine I ?_;refine D [] i ?_;exact ay):A:=s
def zcc(s:A:=by simp only[cQ]at h;exact fw (a:=0) (b:=0) aH (q _ _) (fun v t y u=>eN Z (eN Z (fw (a:=0) (b:=0) aH (q _ _) (fun v t y u=>eN Z Z)))) h):A:=s
def zcd(s:A:=by refine D [0] o ?_;refine zbD ?_;exact⟨(g,W++[a],Y),⟨_,_,Wk.aZ az,_,_,rfl,rfl,by simp[k],by rw[vO,R],by omega,G,h⟩,by simp⟩):A:=s
def zce(h:B)(s:PLift B->A:=by intro hQ;refine GL.Ga rfl rfl rfl rfl rfl rfl ?_;refine bb ?_;exact hQ.1):A:=s ⟨h⟩
def zcf(s:A:=by grind[br,length_cons,length_nil]):A:=s
def zcg(s:A:=by refine I ?_;refine cm ?_;simp):A:=s
def zch(h:B)(s:PLift B->A:=by intro hQ;refine aV (aL 0 7 (.a 7 (.a 8 (.q 9 (.q 10 (.a 11 .nil)))))) ?_;refine ax ?_;refine zap ?_;exact hQ.1):A:=s ⟨h⟩
def zci(s:A:=by exact⟨1,⟨_,_,Wk.aZ az,rfl,rfl,by omega,l 1 rfl M⟩,by omega⟩):A:=s
def zcj(h:B)(s:PLift B->A:=by intro hQ;rw[rs,ae aH];simp only;rw[ae (c _ aC),ae (fun h=>h.elim (c _ aC) (c _ aC)),ae (c _ aC)];exact hQ.1):A:=s ⟨h⟩
def zck(s:A:=by rw[S.tk]at M;obtain⟨t,r,rfl,o,_⟩:=map_cons M;have⟨o,_⟩:=qL o;exact⟨t,r,rfl,fun rest=>⟨jT o aC,jT o aC⟩⟩):A:=s
def zcl(s:A:=by refine I ?_;refine zbD ?_;exact⟨rfl,rfl,_,_,(Wk.cut (n:=3) (ek rfl) rfl).trans (Wk.aZ az),_,_,rfl,rfl,by simp[c],b.symm⟩):A:=s
def zcm(h:B)(s:PLift B->A:=by intro hQ;simp only[bJ,oset,cons_append,nil_append];exact hQ.1):A:=s ⟨h⟩
def zcn(s:A:=by refine bn ?_;exact⟨rfl,rfl,_,_,Wk.aZ az,rfl,rfl,ny t z H o⟩):A:=s
def zco(s:A:=by refine I ?_;refine D [] W ?_;exact⟨rfl,rfl,_,_,(Wk.cut (n:=0) (ek rfl) rfl).trans (Wk.aZ az),_,rfl,rfl,by grind⟩):A:=s
def zcp(s:A:=by refine au func140 ntmps140 ?_;refine aV (aL 0 12 (.a 12 (aL 13 3 .nil))) ?_;refine ax ?_;refine aP [] m ?_;exact aK):A:=s
def zcq(h:B)(s:PLift B->A:=by intro hQ;refine I ?_;refine D [0] (dz p 0 W aR) ?_;exact hQ.1):A:=s ⟨h⟩
def zcr(s:A:=by refine I ?_;have W:=gC (.mk ⟨5,a,0,s,ks⟩ l) 1 M;exact zbq):A:=s
def zcs(s:A:=by rw[List.set_append_right _ _ (by grind),ct,mf,show min k l.length=k by omega,r9,j3 i,set_cons_zero,dd,h,gJ];simp):A:=s
def zct(s:A:=by rw[X]at Q;refine au func198 ntmps198 ?_;refine D [] J ?_;refine D [] z ?_;refine zaG ?_;refine me ?_;exact zah):A:=s
def zcu(s:A:=by generalize tok p 0=tk at *;refine I ?_;refine zac ?_;refine D [0] N ?_;refine zac ?_;refine D [] w ?_;exact ay):A:=s
def zcv(h:B)(s:PLift B->A:=by intro hQ;refine I ?_;refine D [] e ?_;exact hQ.1):A:=s ⟨h⟩
def zcw(s:A:=by refine zbD ?_;exact⟨rfl,rfl,_,_,Wk.aZ az,_,_,_,rfl,rfl,by simp[e],b.symm⟩):A:=s
def zcx(h:B)(s:PLift B->A:=by intro hQ;simp only[hq,cons_append,dP,nil_append];refine I ?_;refine GL.q (YG.vE rfl (JM _ _ _ _ _ _ _ _) rfl) ?_;refine bb ?_;refine GL.oQ (X.length+5) rfl rfl (o5c _ _ _ _ _ _ _ _) rfl z V ?_;exact hQ.1):A:=s ⟨h⟩
def zcy(s:A:=by refine GL.wk (Wk.pd (i:=2) (o:=5) rfl rfl rfl rfl c) ?_;refine dA ?_;refine D [0] (da p [125] W aR) ?_;exact lJ):A:=s
def zcz(h:B)(s:PLift B->A:=by intro hQ;refine I ?_;refine D [] z ?_;exact hQ.1):A:=s ⟨h⟩
def zcA(h:B)(s:PLift B->A:=by intro hQ;refine zac ?_;refine D [0] F ?_;refine aV (aL 0 6 (.a 6 (.a 7 (.a 8 (.q 9 (.q 10 (.a 11 .nil))))))) ?_;refine ax ?_;refine aP [0] A ?_;refine zap ?_;exact hQ.1):A:=s ⟨h⟩
def zcB(s:A:=by exact this.trans (o _ _ _ _ (this.ok W) h)):A:=s
def zcC(s:A:=by simp only[S.ok]at h;have d:=E.iw a h;have G:=l6 a;rw[S.tree,dC,c9,c9,d];simp[cN,own,T.n,T.aw,bR];exact G):A:=s
def zcD(s:A:=by rw[S.ok]at h;rw[S.tree,ky,eQ,eQ];exact⟨.inr (.inr (.inr (.inr (.inr (.inr rfl))))),E.sg a h,trivial⟩):A:=s
def zcE(s:A:=by subst j;refine I ?_;refine aV (aL 0 8 (.a 8 (.q 9 (.q 10 .nil)))) ?_;refine bn ?_;refine D [0] E ?_;exact fV):A:=s
def zcF(s:A:=by refine OA rfl rfl (GL.yx rfl rfl rfl rfl w V ?_);rw[C];refine cD ?_;simp only[dJ];refine ax ?_;exact za7):A:=s
def zcG(s:A:=by exact⟨fun t r h=>(by cases h),fun _ h=>(by cases h)⟩):A:=s
def zcH(s:A:=by refine D [] o ?_;exact ay):A:=s
def zcI(s:A:=by refine I ?_;exact⟨rfl,rfl,_,_,(Wk.cut (n:=1) (bp _) rfl).trans (Wk.aZ az),rfl,rfl,by rw[l,o,i];rfl⟩):A:=s
def zcJ(s:A:=by refine D [] h ?_;exact ay):A:=s
def zcK(s:A:=by refine⟨N,C.tr e,fun G=>?_⟩;obtain⟨u,r,rfl,_,_⟩:=map_cons o;rw[length_cons,<-mg,rB W H,n];simp):A:=s
def zcL(s:A:=by exact h B K _ Z _ j F ((O.mono (dm.refl K) (iV (by rw[i.out _ (aY _)];trivial))).put d (.loc _ 0 b b7))):A:=s
def zcM(h:B)(s:PLift B->A:=by intro hQ;refine zap ?_;refine lV ?_;refine bn ?_;exact hQ.1):A:=s ⟨h⟩
def zcN(s:A:=by exact jC (fun _ _=>rfl) x hx):A:=s
def zcO(s:A:=by simp only;obtain⟨g,rfl⟩:∃F,g=F+1:=⟨g-1,by omega⟩;rw[qy,ae (by rw[my z];decide),iU z aC]):A:=s
def zcP(h:B)(s:PLift B->A:=by intro hQ;refine aV (aL 0 10 (.a 10 (.a 11 .nil))) ?_;refine bn ?_;exact hQ.1):A:=s ⟨h⟩
def zcQ(s:A:=by refine au func198 ntmps198 ?_;refine D [] J ?_;refine D [] z ?_;refine D [] i ?_;refine me ?_;exact zah):A:=s
def zcR(s:A:=by rw[ae (by grind)]at b;subst b;exact fq):A:=s
def zcS(s:A:=by simp only[S.ok,aI]at h;have i:=vh b h.2 d;rw[S.tree,gY,List.map_cons,kC c h.1,kV,kV,kV,i,S.bS];rfl):A:=s
def zcT(s:A:=by simp only[S.ok,aI]at h;have i:=tF b h.2 d;rw[S.tree,gY,List.map_cons,kr c h.1,kV,kV,kV,i,S.bS];rfl):A:=s
def zcU(s:A:=by refine au func228 ntmps228 ?_;refine D [] Q ?_;exact ay):A:=s
def zcV(s:A:=by have⟨T,F⟩:=a;simp only at e j o u C;refine I ?_;refine D [0] G ?_;refine D [0] u ?_;exact zam):A:=s
def zcW(s:A:=by rw[E.tree,gh,eK,eK];exact⟨fun h=>absurd h (by simp),fun h=>absurd h (by simp),E.wf a,trivial⟩):A:=s
def zcX(s:A:=by refine bn ?_;refine D [0] Q ?_;exact ay):A:=s
def zcY(h:B)(s:PLift B->A:=by intro hQ;refine I ?_;refine aV (aL 0 9 .nil) ?_;exact hQ.1):A:=s ⟨h⟩
def zcZ(h:B)(s:PLift B->A:=by intro hQ;unfold qI db;refine zbc ?_;refine I ?_;exact hQ.1):A:=s ⟨h⟩
def zc0(s:A:=by refine zad ?_;refine bB ?_;exact⟨s,q,H,G,rfl,rfl⟩):A:=s
def zc1(s:A:=by simp[mF,E.z,trivial,zT,S.tree]):A:=s
def zc2(h:B)(s:PLift B->A:=by intro hQ;refine ax ?_;refine OA rfl rfl ?_;exact hQ.1):A:=s ⟨h⟩
def zc3(h:B)(s:PLift B->A:=by intro hQ;refine a7 [0,1,2,3,4,5,6] W ?_;refine I ?_;refine GL.q (YG.QF rfl rfl) ?_;exact hQ.1):A:=s ⟨h⟩
def zc4(s:A:=by refine eC ?_;exact aK):A:=s
def zc5(s:A:=by refine I ?_;refine D [] m ?_;exact ay):A:=s
def zc6(s:A:=by refine bb ?_;exact aK):A:=s
def zc7(s:A:=by refine zb4 ?_;refine nq ?_;exact qc (n:=1) rfl (by simp) rfl (ek rfl) rfl rfl ⟨_,rfl,rfl⟩):A:=s
def zc8(s:A:=by simp_all[ak,fp,Bool.and_eq_true_iff]):A:=s
def zc9(h:B)(s:PLift B->A:=by intro hQ;refine aV (aL 0 24 .nil) ?_;refine bn ?_;refine D [0] (jY p X) ?_;refine D [0] (kg p 7 p.place) ?_;refine bB ?_;rw[RS.name,ak W,M];exact hQ.1):A:=s ⟨h⟩
def zda(s:A:=by exact⟨rfl,rfl,_,_,(Wk.cut (n:=0) (aY _) rfl).trans (Wk.aZ az),rfl,rfl,by simpa using l⟩):A:=s
def zdb(s:A:=by rw[ak (.inr (by grind))]at j;subst j;refine za3 ?_;refine I ?_;refine D [0] E ?_;exact fV):A:=s
def zdc(s:A:=by generalize c.fail 23 n.at_=q at *;refine au func207 ntmps207 ?_;refine D [0] Q ?_;exact ay):A:=s
def zdd(h:B)(s:PLift B->A:=by intro hQ;refine GL.q (YG.X5 rfl rfl) ?_;refine bb ?_;refine GL.q (YG.V9 rfl rfl) ?_;refine zad ?_;refine aV (aL 0 13 .nil) ?_;refine ax ?_;exact hQ.1):A:=s ⟨h⟩
def zde(s:A:=by refine D [] e ?_;exact ay):A:=s
def zdf(s:A:=by refine D [0] o ?_;refine zac ?_;refine D [0] u ?_;refine zac ?_;refine D [] n ?_;exact ay):A:=s
def zdg(s:A:=by exact uK f _ _ _ _ (fun k d o e=>by cases e) h G):A:=s
def zdh(s:A:=by refine GL.wk (Wk.jx (t:=108) rfl rfl rfl rfl) ?_;refine dA ?_;refine D [] n ?_;exact ay):A:=s
def zdi(s:A:=by refine oM ?_;exact zaA):A:=s
def zdj(s:A:=by refine nq ?_;exact qc (n:=6) rfl (by simp) rfl (bp _) rfl rfl ⟨rfl,H,C.leave u,rfl⟩):A:=s
def zdk(s:A:=by simpa using this):A:=s
def zdl(s:A:=by rw[S.tree,lr,fC,fC];simp_all[pZ,E.sx,trivial]):A:=s
def zdm(s:A:=by exact .inl ⟨rfl,rfl,rfl,by simp,fun k hk _=>Below.heap_alloc _ _ _ (by simp_all)⟩):A:=s
def zdn(s:A:=by refine aV (aL 0 10 (.a 10 (aL 11 3 .nil))) ?_;refine ax ?_;refine aP [] e ?_;exact aK):A:=s
def zdp(h:B)(s:PLift B->A:=by intro hQ;refine a7 [0,1,2,3,4,5,6] k ?_;refine zaF ?_;refine I ?_;refine a7 [0,1,2,3,4,5,6] l ?_;refine I ?_;refine a7 [0,1,5,6] d ?_;exact hQ.1):A:=s ⟨h⟩
def zdq(s:A:=by simp only[Option.some.injEq,Prod.mk.injEq]at h;obtain⟨rfl,rfl⟩:=h;exact ST V B):A:=s
def zdr(h:B)(s:PLift B->A:=by intro hQ;rw[rs,ae aH];simp only;exact hQ.1):A:=s ⟨h⟩
def zds(s:A:=by refine zaZ ?_;refine ax ?_;refine cH [] hG ?_;refine I ?_;refine D [0] M ?_;exact fV):A:=s
def zdt(h:B)(s:PLift B->A:=by intro hQ;unfold cC;refine I ?_;refine aV (aL 0 6 (.a 6 .nil)) ?_;refine ax ?_;exact hQ.1):A:=s ⟨h⟩
def zdu(h:B)(s:PLift B->A:=by intro hQ;refine aV (aL 0 5 (.a 5 (.a 6 (.a 7 (.q 8 (.a 9 .nil)))))) ?_;refine ax ?_;exact hQ.1):A:=s ⟨h⟩
def zdv(h:B)(s:PLift B->A:=by intro hQ;refine zat ?_;refine D [0] S ?_;refine D [0] hn ?_;exact hQ.1):A:=s ⟨h⟩
def zdw(s:A:=by rw[this];exact⟨fun i=>(by cases i),fun _=>⟨_,sL fun f=>by rw[rs,ak aH]⟩⟩):A:=s
def zdx(s:A:=by exact⟨by first|rfl|(rw[bH];rfl),rfl⟩):A:=s
def zdy(h:B)(s:PLift B->A:=by intro hQ;refine cD ?_;refine bn ?_;exact hQ.1):A:=s ⟨h⟩
def zdz(s:A:=by refine aV (aL 0 6 (.a 6 (aL 7 3 .nil))) ?_;refine ax ?_;refine aP [] Y ?_;exact aK):A:=s
def zdA(s:A:=by simp only[E.ok,aI]at h;have c:=kr a h.2;rw[E.tree,gw,lq,lq,c,E.full];simp[AP]):A:=s
def zdB(h:B)(s:PLift B->A:=by intro hQ;refine aV (.q 1 (.q 2 (.a 0 (.a 3 .nil)))) ?_;refine ax ?_;refine aP [] wQ ?_;refine aP [] d ?_;refine I ?_;refine kU ?_;exact hQ.1):A:=s ⟨h⟩
def zdC(s:A:=by rw[Z];refine au func260 ntmps260 ?_;exact ay):A:=s
def zdD(s:A:=by refine⟨_,fun d ty pos af=>?_,.v _⟩;simp[execOp,eqGuard,O.gq hx,O.gq C,this]):A:=s
def zdE(s:A:=by exact e9 (E b t N) fun v t N=>eO (fun _=>⟨_,_,rfl,N⟩) fun _=>⟨_,_,rfl,N⟩):A:=s
def zdF(s:A:=by rw[S.ok,aI]at h;rw[S.b8,S.ok,aI];exact⟨E.lF H ls c h.1,S.o8 H b ls h.2⟩):A:=s
def zdG(h:B)(s:PLift B->A:=by intro hQ;refine I ?_;refine D [] J ?_;exact hQ.1):A:=s ⟨h⟩
def zdH(h:B)(s:PLift B->A:=by intro hQ;refine D [0] (da _ [61] A aR) ?_;refine D [0] (xV (d+1) _ e o z V m) ?_;refine D [0] (da o [59] j aR) ?_;refine zac ?_;exact hQ.1):A:=s ⟨h⟩
def zdI(h:B)(s:PLift B->A:=by intro hQ;refine I ?_;refine a7 [0,1,2,3,4,5,6] hv ?_;refine I ?_;refine GL.kx 8 (n:=k) rfl rfl rfl rfl rfl rfl rfl rfl Ja np ?_;exact hQ.1):A:=s ⟨h⟩
def zdJ(s:A:=by simp[eK,E.wf,trivial,gh,S.tree]):A:=s
def zdK(s:A:=by refine eC ?_;exact⟨_,_,Wk.aZ az,q,p,_,_,_,_,ns,rfl,rfl,⟨n,j,m,o⟩,e,b⟩):A:=s
def zdM(s:A:=by simp only[S.ok,aI]at h;rw[S.tree,gY,List.map_cons,kC a h.2,S.bS];simp[sD]):A:=s
def zdN(s:A:=by simp only[S.ok,aI]at h;rw[S.tree,gY,List.map_cons,kr a h.2,S.bS];simp[sD]):A:=s
def zdO(s:A:=by refine D [0] M ?_;exact ay):A:=s
def zdP(h:B)(s:PLift B->A:=by intro hQ;refine ax ?_;refine zap ?_;exact hQ.1):A:=s ⟨h⟩
def zdQ(s:A:=by rw[S.ok,aI]at h;rw[S.tree,lr,fC,fC,fC,lr];simp_all[pZ,E.sx,S.DY,trivial]):A:=s
def zdR(s:A:=by exact⟨_,_,Wk.aZ az,none,0,[],rfl,rfl,(fun i x y _ h=>by simp at h),rfl⟩):A:=s
def zdS(s:A:=by rw[m,ae aR];refine dc func54 ntmps54 ?_;refine zaY ?_;refine bb ?_;exact dF):A:=s
def zdT(s:A:=by exact⟨_,_,by rw[cQ],aY _⟩):A:=s
def zdU(s:A:=by grind[Option.some.injEq,Prod.mk.injEq,zM]):A:=s
def zdV(s:A:=by grind[Option.some.injEq,Prod.mk.injEq,zN]):A:=s
def zdW(s:A:=by obtain⟨g,rfl,o,j⟩:=pN z;rw[iS,u,ak A.code,ae F,ae J,ae R,ak B,H g j]):A:=s
def zdX(h:B)(s:PLift B->A:=by intro hQ;refine bb ?_;refine zbx ?_;refine I ?_;exact hQ.1):A:=s ⟨h⟩
def zdY(s:A:=by refine mD ?_;exact zaA):A:=s
def zdZ(h:B)(s:PLift B->A:=by intro hQ;refine D [] m ?_;refine D [] N ?_;exact hQ.1):A:=s ⟨h⟩
def zd0(s:A:=by refine ej ?_;simp):A:=s
def zd1(h:B)(s:PLift B->A:=by intro hQ;refine I ?_;refine nq ?_;exact hQ.1):A:=s ⟨h⟩
def zd2(s:A:=by simp only[S.ok]at h;rw[S.tree,gY,List.map_cons,kC a h,S.bS];simp[sD]):A:=s
def zd3(s:A:=by simp only[S.ok]at h;rw[S.tree,gY,List.map_cons,kr a h,S.bS];simp[sD]):A:=s
def zd4(s:A:=by simp only[cQ]at h;exact fw (a:=0) (b:=0) aH (q _ _) (fun v t y u=>Z) h):A:=s
def zd5(s:A:=by refine au func139 ntmps139 ?_;refine D [] q ?_;refine D [] H ?_;exact ay):A:=s
def zd6(s:A:=by have:=iD t;omega):A:=s
def zd7(s:A:=by rw[E.tree,gh];exact⟨fun h=>absurd h (by simp),fun _=>rfl,trivial⟩):A:=s
def zd8(s:A:=by refine eC ?_;exact⟨_,_,Wk.aZ az,a,z,n,b,d,rfl,rfl,C,i,by omega,H⟩):A:=s
def zd9(s:A:=by grind[mS,one,RS.place,RS.ba]):A:=s
def zea(s:A:=by grind[c9,cN,own,T.n,T.aw,bR,dC,E.tree]):A:=s
def zeb(s:A:=by grind[c9,cN,own,T.n,T.aw,bR,dC,S.tree]):A:=s
def zec(h:B)(s:PLift B->A:=by intro hQ;refine I ?_;refine D [] F ?_;refine D [] d ?_;refine D [] r ?_;refine D [2] b ?_;refine aV (aL 0 17 .nil) ?_;exact hQ.1):A:=s ⟨h⟩
def zed(s:A:=by rw[Go.Xp.eI]at h;omega):A:=s
def zee(s:A:=by unfold mS at *;unfold dE at *;exact zaj):A:=s
def zef(s:A:=by obtain⟨g,rfl⟩:∃F,g=F+1:=⟨g-1,by omega⟩;rw[n,Q,e g aH]):A:=s
def zeg(h:B)(s:PLift B->A:=by intro hQ;refine zdr ?_;rw[ae (i _ (by simp)),ae (fun h=>h.elim (i _ (by simp)) (i _ (by simp))),ae (i _ (by simp))];exact hQ.1):A:=s ⟨h⟩
def zeh(s:A:=by exact⟨0,⟨_,_,Wk.aZ az,rfl,rfl,by omega,l 0 rfl M⟩,by omega⟩):A:=s
def zei(s:A:=by refine au func259 ntmps259 ?_;exact ay):A:=s
def zej(s:A:=by refine au func135 ntmps135 ?_;exact ay):A:=s
def zek(s:A:=by refine au func176 ntmps176 ?_;refine aV (aL 0 10 .nil) ?_;exact zbv):A:=s
def zel(s:A:=by rw[ae (by grind)];exact zcg):A:=s
def zem(s:A:=by rw[A]at z;rw[ae (by grind)]at d;subst d;refine zcz ?_;exact fV):A:=s
def zen(h:B)(s:PLift B->A:=by intro hQ;refine I ?_;refine D [] i ?_;refine GL.wk (Wk.jx (t:=59) rfl rfl rfl e) ?_;refine zb0 ?_;refine D [] B ?_;exact hQ.1):A:=s ⟨h⟩
def zeo(s:A:=by exact K7 (k:=0) (q:=0) (h:=(0,0)) z A d R o 0 (.inl ⟨rfl,rfl⟩)):A:=s
def zeq(h:B)(s:PLift B->A:=by intro hQ;refine aV (aL 0 7 (.a 7 .nil)) ?_;refine ax ?_;exact hQ.1):A:=s ⟨h⟩
def zer(h:B)(s:PLift B->A:=by intro hQ;refine I ?_;refine D [] k ?_;refine D [] b ?_;exact hQ.1):A:=s ⟨h⟩
def zdL(s:A:=by exact⟨T.zero,_,fun g c=>by rw[iE,A,ae E.err],by rw[<-On.uh i];exact E⟩):A:=s
def zes(h:B)(s:PLift B->A:=by intro hQ;refine GL.wk (Wk.jx (t:=57) rfl rfl rfl rfl) ?_;refine dA ?_;exact hQ.1):A:=s ⟨h⟩
def zet(s:A:=by rw[this];exact⟨fun i=>(by cases i),fun _=>⟨_,Ev.SC aH⟩⟩):A:=s
def zeu(s:A:=by simp[eK,E.wf,S.D5,trivial,gh,S.tree]):A:=s
def zev(h:B)(s:PLift B->A:=by intro hQ;refine jj ?_;refine ax ?_;refine OQ rfl (YG.a8 (j+8) rfl rfl (J _ _ _ _ _ _ _ _ _ _) QS) ?_;refine jj ?_;exact hQ.1):A:=s ⟨h⟩
def zew(s:A:=by simp only[cQ]at h;exact ep Q (q _ _) (fun v t y u=>bQ (z _)) h):A:=s
def zex(s:A:=by have⟨S,u,F,E⟩:=h B K β w l j i O;exact k B S u w l j F E):A:=s
def zey(s:A:=by grind[List.map_congr_left,Nat.mod_lt,Array.getElem?_eq_getElem]):A:=s
def zez(s:A:=by refine I ?_;refine D [] r ?_;refine D [0] q ?_;refine cm ?_;simp):A:=s
def zeA(s:A:=by simp[mF,E.z,S.zs,trivial,zT,S.tree]):A:=s
def zeB(s:A:=by exact⟨pZ (by simp) (by simp) (by simp),E.sx a h.2,trivial⟩):A:=s
def zeC(s:A:=by rw[ak (by simpa using i)];exact zae):A:=s
def zeD(s:A:=by rw[ae (by simpa using i)];exact zae):A:=s
def zeE(h:B)(s:PLift B->A:=by intro hQ;rw[show(lP st.aE).length+[[qT t]].length=(st.aE++[t]).length by simp[nW],<-vO st.aE t];refine bn ?_;exact hQ.1):A:=s ⟨h⟩
def zeF(s:A:=by refine zb4 ?_;refine me ?_;exact zah):A:=s
def zeG(h:B)(s:PLift B->A:=by intro hQ;refine D [] Q ?_;refine aV (aL 0 8 (.a 8 (.a 9 .nil))) ?_;exact hQ.1):A:=s ⟨h⟩
def zeH(h:B)(s:PLift B->A:=by intro hQ;refine zaI ?_;refine ax ?_;refine cH [0] m ?_;refine cH [] tR ?_;refine cH [0] m ?_;refine cH [] c ?_;exact hQ.1):A:=s ⟨h⟩
def zeI(s:A:=by simp[E.tree,T.n]at G):A:=s
def zeJ(s:A:=by refine ql ?_;exact zaA):A:=s
def zeK(s:A:=by refine kU ?_;exact zah):A:=s
def zeL(s:A:=by refine I ?_;have W:=gC (.mk ⟨9,a,0,s,ks⟩ l) 1 M;exact zbq):A:=s
def zeM(s:A:=by rw[i]at h;rw[hit i];refine I ?_;refine oJ [] h ?_;exact aK):A:=s
def zeN(s:A:=by exact o.tr (y:=.error x) u):A:=s
def zeO(s:A:=by exact G.tr (y:=.error x) E):A:=s
def zeP(s:A:=by refine aP [] N ?_;exact kT):A:=s
def zeQ(s:A:=by exact absurd G (by simp[one,T.n])):A:=s
def zeR(s:A:=by obtain⟨g,rfl,o,j⟩:=pN z;rw[iS,u,ak A.code,ak F,H g j]):A:=s
def zeS(s:A:=by rw[getElem?_eq_none V,getElem?_eq_none (by rw[ct];omega)]):A:=s
def zeT(s:A:=by simp_all[kc,aI,Bool.not_eq_true',decide_eq_false_iff_not]):A:=s
def zeU(s:A:=by grind[mq,br,jJ]):A:=s
def zeV(s:A:=by refine zas ?_;exact⟨rfl,rfl,_,_,Wk.aZ az,b,c,rfl,rfl⟩):A:=s
def zeW(h:B)(s:PLift B->A:=by intro hQ;refine GL.kx 1 rfl rfl rfl rfl rfl rfl rfl rfl aQ np ?_;exact hQ.1):A:=s ⟨h⟩
def zeX(s:A:=by exact absurd i (O5 _ _ _ (fun k d out h=>by cases h) _ _)):A:=s
def zeY(s:A:=by exact⟨by omega,by omega,by omega,fun x hx=>by grind⟩):A:=s
def zeZ(s:A:=by exact⟨by grind,by grind,by grind,fun x hx=>by grind⟩):A:=s
def ze0(s:A:=by rw[E.tree,zT,mF,mF];exact⟨fun _=>rfl,E.z a,trivial⟩):A:=s
def ze1(s:A:=by refine D [] c ?_;exact ay):A:=s
def ze2(s:A:=by refine D [] O ?_;exact ay):A:=s
def ze3(s:A:=by refine ax ?_;refine aP [] B ?_;refine aP [] r ?_;exact aK):A:=s
def ze4(s:A:=by refine I ?_;exact zaT):A:=s
def ze5(s:A:=by rw[ak (by grind)]at b;exact zbo):A:=s
def ze6(s:A:=by have:=h.w;unfold cU wS at *;simp only[qk,b9]at *;omega):A:=s
def ze7(h:B)(s:PLift B->A:=by intro hQ;refine aV (aL 0 33 (.a 33 (.q 34 (.q 35 .nil)))) ?_;refine ax ?_;refine cH [0] (dz b 1 c aR) ?_;exact hQ.1):A:=s ⟨h⟩
def ze8(h:B)(s:PLift B->A:=by intro hQ;refine zaR ?_;refine D [0] B ?_;refine zac ?_;refine D [0] hw ?_;refine D [0] o ?_;refine pO ?_;exact hQ.1):A:=s ⟨h⟩
def ze9(s:A:=by refine zas ?_;refine ej ?_;exact⟨M,p,S,l,d,rfl,rfl⟩):A:=s
def zfa(s:A:=by refine zas ?_;refine ej ?_;exact⟨M,p,R,l,d,rfl,rfl⟩):A:=s
def zfb(h:B)(s:PLift B->A:=by intro hQ;refine D [] n ?_;refine D [] o ?_;refine D [] N ?_;refine zac ?_;refine D [] i ?_;refine zac ?_;exact hQ.1):A:=s ⟨h⟩
def zfc(s:A:=by repeat (first|exact dj.n|(apply dj.w;(· decide +kernel))|(apply dj.y;(· first|(apply YQ.t;(· exact rfl);(· exact rfl);(· (first|exact YG.jh 7 rfl rfl rfl ((dR _ _ _ _).trans j) o|(first|exact fP|(apply K.idx;first|exact YG.idxV rfl rfl rfl aQ V|exact YG.a8 0 rfl rfl rfl aS|exact YG.a8 1 rfl rfl rfl aS|exact YG.a8 2 rfl rfl rfl aS|exact YG.a8 3 rfl rfl rfl aS|exact YG.a8 4 rfl rfl rfl aS|exact YG.a8 5 rfl rfl rfl aS|exact YG.a8 6 rfl rfl rfl aS)|exact fR|exact YG.fO 1 rfl rfl aQ aQ|exact YG.mv|exact YG.lp|(apply K.bin;first|exact YG.go rfl|exact YG.jK rfl rfl V|exact YG.iM rfl rfl|exact YG.iO rfl rfl|exact YG.mM rfl rfl|exact YG.mV rfl rfl|exact YG.cat rfl rfl V|exact YG.cat rfl rfl (by simp only[br,length_cons,length_nil];omega)|exact YG.jR rfl rfl V|exact YG.add rfl rfl V|exact YG.sub rfl rfl V|exact YG.mul rfl rfl V|exact YG.kQ rfl rfl V|exact YG.quo rfl rfl V|exact YG.rem rfl rfl V|exact YG.ib rfl rfl)|exact fF|exact fE|exact gH|exact eR|exact ff|(apply K.idx;first|exact YG.gR rfl rfl aX|exact YG.cx rfl rfl aX rfl|exact YG.cx rfl rfl aX V|exact YG.ju rfl rfl V)|exact YG.ext rfl rfl|exact YG.go rfl|(apply K.nS;first|exact YG.kP rfl rfl rfl V|exact YG.kO rfl rfl V|exact YG.kL rfl rfl V|exact YG.gb 1 rfl rfl rfl aQ)|exact YG.iQ rfl rfl aX|exact YG.idxSC rfl rfl aX rfl|exact fg|exact YG.build rfl|exact YG.neg rfl V|exact YG.iP rfl rfl|exact YG.lZ rfl (by first|rfl|exact IntWalk.i64_in _ V|exact IntWalk.u8_in _ V|assumption)|exact YG.str rfl aQ))))|(apply YQ.t;(· exact rfl);(· apply pz;(· exact rfl);(· first|exact rfl|assumption));(· (first|exact YG.jh 7 rfl rfl rfl ((dR _ _ _ _).trans j) o|(first|exact fP|(apply K.idx;first|exact YG.idxV rfl rfl rfl aQ V|exact YG.a8 0 rfl rfl rfl aS|exact YG.a8 1 rfl rfl rfl aS|exact YG.a8 2 rfl rfl rfl aS|exact YG.a8 3 rfl rfl rfl aS|exact YG.a8 4 rfl rfl rfl aS|exact YG.a8 5 rfl rfl rfl aS|exact YG.a8 6 rfl rfl rfl aS)|exact fR|exact YG.fO 1 rfl rfl aQ aQ|exact YG.mv|exact YG.lp|(apply K.bin;first|exact YG.go rfl|exact YG.jK rfl rfl V|exact YG.iM rfl rfl|exact YG.iO rfl rfl|exact YG.mM rfl rfl|exact YG.mV rfl rfl|exact YG.cat rfl rfl V|exact YG.cat rfl rfl (by simp only[br,length_cons,length_nil];omega)|exact YG.jR rfl rfl V|exact YG.add rfl rfl V|exact YG.sub rfl rfl V|exact YG.mul rfl rfl V|exact YG.kQ rfl rfl V|exact YG.quo rfl rfl V|exact YG.rem rfl rfl V|exact YG.ib rfl rfl)|exact fF|exact fE|exact gH|exact eR|exact ff|(apply K.idx;first|exact YG.gR rfl rfl aX|exact YG.cx rfl rfl aX rfl|exact YG.cx rfl rfl aX V|exact YG.ju rfl rfl V)|exact YG.ext rfl rfl|exact YG.go rfl|(apply K.nS;first|exact YG.kP rfl rfl rfl V|exact YG.kO rfl rfl V|exact YG.kL rfl rfl V|exact YG.gb 1 rfl rfl rfl aQ)|exact YG.iQ rfl rfl aX|exact YG.idxSC rfl rfl aX rfl|exact fg|exact YG.build rfl|exact YG.neg rfl V|exact YG.iP rfl rfl|exact YG.lZ rfl (by first|rfl|exact IntWalk.i64_in _ V|exact IntWalk.u8_in _ V|assumption)|exact YG.str rfl aQ))))|(apply YQ.f;(· exact rfl);(· apply qb;(· exact rfl);(· first|exact rfl|assumption))))))):A:=s
def zfd(s:A:=by repeat (first|exact dj.n|(apply dj.w;(· decide +kernel))|(apply dj.y;(· first|(apply YQ.t;(· exact rfl);(· exact rfl);(· (first|exact YG.jh 7 rfl rfl rfl j o|(first|exact fP|(apply K.idx;first|exact YG.idxV rfl rfl rfl aQ V|exact YG.a8 0 rfl rfl rfl aS|exact YG.a8 1 rfl rfl rfl aS|exact YG.a8 2 rfl rfl rfl aS|exact YG.a8 3 rfl rfl rfl aS|exact YG.a8 4 rfl rfl rfl aS|exact YG.a8 5 rfl rfl rfl aS|exact YG.a8 6 rfl rfl rfl aS)|exact fR|exact YG.fO 1 rfl rfl aQ aQ|exact YG.mv|exact YG.lp|(apply K.bin;first|exact YG.go rfl|exact YG.jK rfl rfl V|exact YG.iM rfl rfl|exact YG.iO rfl rfl|exact YG.mM rfl rfl|exact YG.mV rfl rfl|exact YG.cat rfl rfl V|exact YG.cat rfl rfl (by simp only[br,length_cons,length_nil];omega)|exact YG.jR rfl rfl V|exact YG.add rfl rfl V|exact YG.sub rfl rfl V|exact YG.mul rfl rfl V|exact YG.kQ rfl rfl V|exact YG.quo rfl rfl V|exact YG.rem rfl rfl V|exact YG.ib rfl rfl)|exact fF|exact fE|exact gH|exact eR|exact ff|(apply K.idx;first|exact YG.gR rfl rfl aX|exact YG.cx rfl rfl aX rfl|exact YG.cx rfl rfl aX V|exact YG.ju rfl rfl V)|exact YG.ext rfl rfl|exact YG.go rfl|(apply K.nS;first|exact YG.kP rfl rfl rfl V|exact YG.kO rfl rfl V|exact YG.kL rfl rfl V|exact YG.gb 1 rfl rfl rfl aQ)|exact YG.iQ rfl rfl aX|exact YG.idxSC rfl rfl aX rfl|exact fg|exact YG.build rfl|exact YG.neg rfl V|exact YG.iP rfl rfl|exact YG.lZ rfl (by first|rfl|exact IntWalk.i64_in _ V|exact IntWalk.u8_in _ V|assumption)|exact YG.str rfl aQ))))|(apply YQ.t;(· exact rfl);(· apply pz;(· exact rfl);(· first|exact rfl|assumption));(· (first|exact YG.jh 7 rfl rfl rfl j o|(first|exact fP|(apply K.idx;first|exact YG.idxV rfl rfl rfl aQ V|exact YG.a8 0 rfl rfl rfl aS|exact YG.a8 1 rfl rfl rfl aS|exact YG.a8 2 rfl rfl rfl aS|exact YG.a8 3 rfl rfl rfl aS|exact YG.a8 4 rfl rfl rfl aS|exact YG.a8 5 rfl rfl rfl aS|exact YG.a8 6 rfl rfl rfl aS)|exact fR|exact YG.fO 1 rfl rfl aQ aQ|exact YG.mv|exact YG.lp|(apply K.bin;first|exact YG.go rfl|exact YG.jK rfl rfl V|exact YG.iM rfl rfl|exact YG.iO rfl rfl|exact YG.mM rfl rfl|exact YG.mV rfl rfl|exact YG.cat rfl rfl V|exact YG.cat rfl rfl (by simp only[br,length_cons,length_nil];omega)|exact YG.jR rfl rfl V|exact YG.add rfl rfl V|exact YG.sub rfl rfl V|exact YG.mul rfl rfl V|exact YG.kQ rfl rfl V|exact YG.quo rfl rfl V|exact YG.rem rfl rfl V|exact YG.ib rfl rfl)|exact fF|exact fE|exact gH|exact eR|exact ff|(apply K.idx;first|exact YG.gR rfl rfl aX|exact YG.cx rfl rfl aX rfl|exact YG.cx rfl rfl aX V|exact YG.ju rfl rfl V)|exact YG.ext rfl rfl|exact YG.go rfl|(apply K.nS;first|exact YG.kP rfl rfl rfl V|exact YG.kO rfl rfl V|exact YG.kL rfl rfl V|exact YG.gb 1 rfl rfl rfl aQ)|exact YG.iQ rfl rfl aX|exact YG.idxSC rfl rfl aX rfl|exact fg|exact YG.build rfl|exact YG.neg rfl V|exact YG.iP rfl rfl|exact YG.lZ rfl (by first|rfl|exact IntWalk.i64_in _ V|exact IntWalk.u8_in _ V|assumption)|exact YG.str rfl aQ))))|(apply YQ.f;(· exact rfl);(· apply qb;(· exact rfl);(· first|exact rfl|assumption))))))):A:=s
def zfe(s:A:=by repeat (first|exact dj.n|(apply dj.w;(· decide +kernel))|(apply dj.y;(· first|(apply YQ.t;(· exact rfl);(· exact rfl);(· (first|exact fP|(apply K.idx;first|exact YG.idxV rfl rfl rfl aQ V|exact YG.a8 0 rfl rfl rfl aS|exact YG.a8 1 rfl rfl rfl aS|exact YG.a8 2 rfl rfl rfl aS|exact YG.a8 3 rfl rfl rfl aS|exact YG.a8 4 rfl rfl rfl aS|exact YG.a8 5 rfl rfl rfl aS|exact YG.a8 6 rfl rfl rfl aS)|exact fR|exact YG.fO 1 rfl rfl aQ aQ|exact YG.mv|exact YG.lp|(apply K.bin;first|exact YG.go rfl|exact YG.jK rfl rfl V|exact YG.iM rfl rfl|exact YG.iO rfl rfl|exact YG.mM rfl rfl|exact YG.mV rfl rfl|exact YG.cat rfl rfl V|exact YG.cat rfl rfl (by simp only[br,length_cons,length_nil];omega)|exact YG.jR rfl rfl V|exact YG.add rfl rfl V|exact YG.sub rfl rfl V|exact YG.mul rfl rfl V|exact YG.kQ rfl rfl V|exact YG.quo rfl rfl V|exact YG.rem rfl rfl V|exact YG.ib rfl rfl)|exact fF|exact fE|exact gH|exact eR|exact ff|(apply K.idx;first|exact YG.gR rfl rfl aX|exact YG.cx rfl rfl aX rfl|exact YG.cx rfl rfl aX V|exact YG.ju rfl rfl V)|exact YG.ext rfl rfl|exact YG.go rfl|(apply K.nS;first|exact YG.kP rfl rfl rfl V|exact YG.kO rfl rfl V|exact YG.kL rfl rfl V|exact YG.gb 1 rfl rfl rfl aQ)|exact YG.iQ rfl rfl aX|exact YG.idxSC rfl rfl aX rfl|exact fg|exact YG.build rfl|exact YG.neg rfl V|exact YG.iP rfl rfl|exact YG.lZ rfl (by first|rfl|exact IntWalk.i64_in _ V|exact IntWalk.u8_in _ V|assumption)|exact YG.str rfl aQ)))|(apply YQ.t;(· exact rfl);(· apply pz;(· exact rfl);(· first|exact rfl|assumption));(· (first|exact fP|(apply K.idx;first|exact YG.idxV rfl rfl rfl aQ V|exact YG.a8 0 rfl rfl rfl aS|exact YG.a8 1 rfl rfl rfl aS|exact YG.a8 2 rfl rfl rfl aS|exact YG.a8 3 rfl rfl rfl aS|exact YG.a8 4 rfl rfl rfl aS|exact YG.a8 5 rfl rfl rfl aS|exact YG.a8 6 rfl rfl rfl aS)|exact fR|exact YG.fO 1 rfl rfl aQ aQ|exact YG.mv|exact YG.lp|(apply K.bin;first|exact YG.go rfl|exact YG.jK rfl rfl V|exact YG.iM rfl rfl|exact YG.iO rfl rfl|exact YG.mM rfl rfl|exact YG.mV rfl rfl|exact YG.cat rfl rfl V|exact YG.cat rfl rfl (by simp only[br,length_cons,length_nil];omega)|exact YG.jR rfl rfl V|exact YG.add rfl rfl V|exact YG.sub rfl rfl V|exact YG.mul rfl rfl V|exact YG.kQ rfl rfl V|exact YG.quo rfl rfl V|exact YG.rem rfl rfl V|exact YG.ib rfl rfl)|exact fF|exact fE|exact gH|exact eR|exact ff|(apply K.idx;first|exact YG.gR rfl rfl aX|exact YG.cx rfl rfl aX rfl|exact YG.cx rfl rfl aX V|exact YG.ju rfl rfl V)|exact YG.ext rfl rfl|exact YG.go rfl|(apply K.nS;first|exact YG.kP rfl rfl rfl V|exact YG.kO rfl rfl V|exact YG.kL rfl rfl V|exact YG.gb 1 rfl rfl rfl aQ)|exact YG.iQ rfl rfl aX|exact YG.idxSC rfl rfl aX rfl|exact fg|exact YG.build rfl|exact YG.neg rfl V|exact YG.iP rfl rfl|exact YG.lZ rfl (by first|rfl|exact IntWalk.i64_in _ V|exact IntWalk.u8_in _ V|assumption)|exact YG.str rfl aQ)))|(apply YQ.f;(· exact rfl);(· apply qb;(· exact rfl);(· first|exact rfl|assumption))))))):A:=s
def zff(s:A:=by grind):A:=s
def zfg(s:A:=by simp):A:=s
def zfh(s:A:=by omega):A:=s
def zfi(s:A:=by grind[T.n]):A:=s
def zfj(s:A:=by first|rfl|exact IntWalk.i64_in _ V|exact IntWalk.u8_in _ V|assumption):A:=s
def zfk(s:A:=by simpa using jO e 0 t rfl):A:=s
def zfl(s:A:=by grind[bI]):A:=s
def zfm(s:A:=by simp only[br,length_cons,length_nil];omega):A:=s
def zfn(s:A:=by cases h):A:=s
def zfo(s:A:=by rw[List.mem_take_iff_getElem];exact⟨j,by omega,rfl⟩):A:=s
def zfp(s:A:=by simpa using o):A:=s
def zfq(s:A:=by grind[kB,aM]):A:=s
def zfr(s:A:=by grind[maxLen]):A:=s
def zfs(s:A:=by grind[List.append_eq_nil_iff]):A:=s
def zft(s:A:=by simp[execOp,resolve,invoke,builtin,hs,hx,O]):A:=s
def zfu(s:A:=by grind[kE]):A:=s
def zfv(s:A:=by simpa using jO e 1 u rfl):A:=s
def zfw(s:A:=by rfl):A:=s
def zfx(s:A:=by rw[j];decide):A:=s
def zfy(s:A:=by simpa using M):A:=s
def zfz(s:A:=by grind[fN]):A:=s
def zfA(s:A:=by grind[fW]):A:=s
def zfB(s:A:=by grind[sN]):A:=s
theorem zfC:([40]:List UInt8)≠[]:=by decide
def zfD(s:A:=by rw[G];decide):A:=s
def zfE(s:A:=by simpa using b):A:=s
def zfF(s:A:=by simp[rs]):A:=s
def zfG(s:A:=by unfold KF at j;omega):A:=s
def zfH(s:A:=by first|rfl|decide):A:=s
def zfI(s:A:=by simp only[cons_append,dP,nil_append];rfl):A:=s
def zfJ(s:A:=by simp[j]):A:=s
def zfK(s:A:=by rw[C,R,<-Nat.add_mul,H];exact s0 _ A):A:=s
def zfL(s:A:=by have:=hn.fresh;have:=h.ext.size;omega):A:=s
def zfM(s:A:=by rw[E,A];exact growslice_fits zfh zfh):A:=s
end
end Go
namespace Go
def aH{A:Prop}(s:A:=by omega):A:=s
def aC{A:Prop}(s:A:=by decide):A:=s
section
variable{R:Type _}
def bY{l:List R}{i:Nat}{a:R}(h:l[i]?=some a):∃(h:i<l.length),l[i]=a:=List.getElem?_eq_some_iff.1 h
def iY{a b:R}{l:List R}(h:a∈b::l):a=b\/a∈l:=List.mem_cons.1 h
def oO{a:R}{s t:List R}(h:a∈s++t):a∈s\/a∈t:=List.mem_append.1 h
def oP{l:List R}{i:Nat}(h:l[i]?=none):l.length<=i:=List.getElem?_eq_none_iff.1 h
end
def ae:type_of% @if_neg:=@if_neg
def ak:type_of% @if_pos:=@if_pos
def aI:type_of% @Bool.and_eq_true:=@Bool.and_eq_true
theorem bP:type_of% @List.mem_of_getElem?:=@List.mem_of_getElem?
theorem br:type_of% @List.length_append:=@List.length_append
def aY:type_of% @Nat.le_refl:=@Nat.le_refl
theorem dB:type_of% @List.getElem?_map:=@List.getElem?_map
def bp:type_of% @Nat.zero_le:=@Nat.zero_le
theorem cK:type_of% @List.getElem?_eq_getElem:=@List.getElem?_eq_getElem
theorem ct:type_of% @List.length_map:=@List.length_map
theorem ll:type_of% @List.eq_nil_of_length_eq_zero:=@List.eq_nil_of_length_eq_zero
theorem dd:type_of% @List.take_add_one:=@List.take_add_one
def ek:type_of% @Nat.le_of_ble_eq_true:=@Nat.le_of_ble_eq_true
def dD:type_of% @List.take_length:=@List.take_length
theorem dP:type_of% @List.append_assoc:=@List.append_assoc
def dJ:type_of% @Nat.zero_add:=@Nat.zero_add
theorem ec:type_of% @List.mem_cons_of_mem:=@List.mem_cons_of_mem
theorem j0:type_of% @List.getElem?_append_right:=@List.getElem?_append_right
theorem mf:type_of% @List.length_take:=@List.length_take
theorem eT:type_of% @List.append_nil:=@List.append_nil
def j1:type_of% @List.getElem?_append_left:=@List.getElem?_append_left
def eY:type_of% @List.getElem?_set:=@List.getElem?_set
def sY:type_of% @List.length_zipWith:=@List.length_zipWith
def mg:type_of% @Nat.add_assoc:=@Nat.add_assoc
def r9:type_of% @Nat.sub_self:=@Nat.sub_self
theorem j3:type_of% @List.drop_eq_getElem_cons:=@List.drop_eq_getElem_cons
theorem ln:type_of% @List.take_of_length_le:=@List.take_of_length_le
theorem jk:type_of% @Nat.le_trans:=@Nat.le_trans
theorem sa:type_of% @List.length_drop:=@List.length_drop
theorem sZ:type_of% @Option.some.inj:=@Option.some.inj
theorem gJ:type_of% @List.map_append:=@List.map_append
theorem p6:type_of% @List.contains_iff_mem:=@List.contains_iff_mem
def q9:type_of% @of_decide_eq_true:=@of_decide_eq_true
theorem ea:type_of% @List.all_eq_true:=@List.all_eq_true
theorem ik:type_of% @Int.toNat_natCast:=@Int.toNat_natCast
def s0:type_of% @Nat.mul_le_mul_right:=@Nat.mul_le_mul_right
def BM:type_of% @Nat.lt_of_lt_of_le:=@Nat.lt_of_lt_of_le
theorem ra:type_of% @mem_map:=@mem_map
theorem mh:type_of% @List.any_eq_true:=@List.any_eq_true
end Go
namespace Go.Xp
abbrev ab:=List UInt8
structure Tok where
 ai:Int
 n:Int
 s:ab
 at_:Int
structure Nd where
 ai:Int
 at_:Int
 n:Int
 s:ab
 aw:List Int
inductive T where
 |mk (n:Nd) (aw:List T)
def T.n:T->Nd|.mk n _=>n
def T.aw:T->List T|.mk _ k=>k
abbrev Er:=Int × Int
abbrev Rd(R:Type):=Except Er (R × List Tok)
def dS(t:Tok):ab:=if t.ai=3 then t.s else[]
def aJ(ts:List Tok)(k:Nat):ab:=match ts[k]? with|some t=>dS t|none=>[]
def place(e:Int):List Tok->Int
 |t::_=>t.at_
 |[]=>e
def ba(e:Int)(s:ab)(ts:List Tok):Except Er (List Tok) :=
 if aJ ts 0=s then .ok ts.tail else .error (7,place e ts)
def name(e:Int):List Tok->Rd ab
 |[]=>.error (7,e)
 |t::r=>if t.ai=2 then(if t.s.length>12 then .error (8,t.at_)else .ok (t.s,r))else .error (7,t.at_)
def one(u at_:Int)(s:ab)(aw:List T):T:=.mk ⟨u,at_,0,s,[]⟩ aw
def levels:List (List ab):=[[[124,124]],[[38,38]],[[61,61],[33,61],[60],[62],[60,61],[62,61]],[[124]],[[94]],[[38]],[[60,60],[62,62]],[[43],[45]],[[42],[47],[37]]]
def bO:Er:=(-1,-1)
inductive uq where
 |expr (a6:Nat)
 |level (k a6:Nat)
 |loop (k a6:Nat) (out:T)
 |operand (a6:Nat)
def rd(e:Int):Nat->uq->List Tok->Rd T
 |0,_,_=>.error bO
 |f+1,.expr a6,u=>if a6>60 then .error (9,place e u)else rd e f (.level 0 (a6+1)) u
 |f+1,.level k a6,u =>
  if k=9 then rd e f (.operand a6) u
  else match rd e f (.level (k+1) a6) u with
   |.error x=>.error x
   |.ok (out,u)=>rd e f (.loop k a6 out) u
 |f+1,.loop k a6 out,u =>
  match u with
  |[]=>.ok (out,u)
  |t::r =>
   if t.ai=3/\t.s∈levels.getD k []then
    match rd e f (.level (k+1) a6) r with
    |.error x=>.error x
    |.ok (b,r)=>rd e f (.loop k a6 (one 6 t.at_ t.s [out,b])) r
   else .ok (out,u)
 |f+1,.operand a6,u =>
  if a6>60 then .error (9,place e u)
  else match u with
  |[]=>.error (7,e)
  |t::r =>
   if t.ai=3 then
    if t.s=[45]\/t.s=[33]\/t.s=[126]then
     match rd e f (.operand (a6+1)) r with
     |.error x=>.error x
     |.ok (a,r)=>.ok (one 5 t.at_ t.s [a],r)
    else if t.s=[40]then
     match rd e f (.expr (a6+1)) r with
     |.error x=>.error x
     |.ok (a,r)=>match ba e [41] r with
      |.error x=>.error x
      |.ok r=>.ok (a,r)
    else .error (7,t.at_)
   else if t.ai=1 then .ok (.mk ⟨1,t.at_,t.n,[],[]⟩ [],r)
   else match name e u with
    |.error x=>.error x
    |.ok (s,r) =>
     if aJ r 0=[91]then
      match rd e f (.expr (a6+1)) r.tail with
      |.error x=>.error x
      |.ok (a,r)=>match ba e [93] r with
       |.error x=>.error x
       |.ok r=>.ok (one 3 t.at_ s [a],r)
     else if aJ r 0=[40]then
      match args e f (a6+1) [] r.tail with
      |.error x=>.error x
      |.ok (l,r)=>.ok (one 4 t.at_ s l,r)
     else .ok (one 2 t.at_ s [],r)
where
 args (e:Int):Nat->Nat->List T->List Tok->Rd (List T)
  |0,_,_,_=>.error bO
  |f+1,a6,acc,ts =>
   if aJ ts 0=[41]then .ok (acc,ts.tail)
   else match(if acc=[]then .ok ts else ba e [44] ts)with
    |.error x=>.error x
    |.ok ts=>match rd e f (.expr a6) ts with
     |.error x=>.error x
     |.ok (a,ts)=>args e f a6 (acc++[a]) ts
def l7:ab:=[118,97,114]
def gy:ab:=[105,102]
def iH:ab:=[101,108,115,101]
def gP:ab:=[119,104,105,108,101]
def gW:ab:=[114,101,116,117,114,110]
def ji:ab:=[105,110,116]
def jv:ab:=[102,117,110,99]
inductive tA where
 |block (a6:Nat)
 |stmt (a6:Nat)
def nO(ts:List Tok):Nat:=20*ts.length+20
def expr(e:Int)(a6:Nat)(ts:List Tok):Rd T:=rd e (nO ts) (.expr a6) ts
def inner(e:Int)(a6:Nat)(a b:ab)(ts:List Tok):Rd T :=
 match ba e a ts with
 |.error x=>.error x
 |.ok ts=>match expr e a6 ts with
  |.error x=>.error x
  |.ok (t,ts)=>match ba e b ts with
   |.error x=>.error x
   |.ok ts=>.ok (t,ts)
def mb(e:Int)(a6:Nat)(ts:List Tok):Rd (ab × T) :=
 match name e ts with
 |.error x=>.error x
 |.ok (s,ts)=>match inner e a6 [61] [59] ts with
  |.error x=>.error x
  |.ok (t,ts)=>.ok ((s,t),ts)
def simple(e:Int)(a6:Nat)(ts:List Tok):Rd T :=
 match ts with
 |[]=>match expr e (a6+1) []with
  |.error x=>.error x
  |.ok _=>.error (7,e)
 |t::_ =>
  if t.ai=2/\aJ ts 1=[61]then
   match mb e (a6+1) ts with
   |.error x=>.error x
   |.ok ((s,a),ts)=>.ok (one 7 t.at_ s [a],ts)
  else match expr e (a6+1) ts with
   |.error x=>.error x
   |.ok (a,ts) =>
    if a.n.ai=3/\a.n.at_=t.at_/\aJ ts 0=[61]then
     match inner e (a6+1) [61] [59] ts with
     |.error x=>.error x
     |.ok (v,ts)=>.ok (one 8 t.at_ a.n.s (a.aw.take 1++[v]),ts)
    else match ba e [59] ts with
     |.error x=>.error x
     |.ok ts=>.ok (one 12 t.at_ [] [a],ts)
def rs(e:Int):Nat->tA->List Tok->Rd T
 |0,_,_=>.error bO
 |f+1,.block a6,t =>
  if a6>60 then .error (9,place e t)
  else match ba e [123] t with
   |.error x=>.error x
   |.ok r=>match body e f (a6+1) [] r with
    |.error x=>.error x
    |.ok (l,r)=>.ok (one 14 (place e t) [] l,r)
 |f+1,.stmt a6,t =>
  if a6>60 then .error (9,place e t)
  else
   let at_:=place e t
   if aJ t 0=l7 then
    match mb e (a6+1) t.tail with
    |.error x=>.error x
    |.ok ((s,a),t)=>.ok (one 13 at_ s [a],t)
   else if aJ t 0=gy\/aJ t 0=gP then
    match inner e (a6+1) [40] [41] t.tail with
    |.error x=>.error x
    |.ok (c,r)=>match rs e f (.block (a6+1)) r with
     |.error x=>.error x
     |.ok (b,r) =>
      if aJ t 0=gy then
       if aJ r 0=iH then
        match rs e f (.block (a6+1)) r.tail with
        |.error x=>.error x
        |.ok (m,r)=>.ok (one 9 at_ [] [c,b,m],r)
       else .ok (one 9 at_ [] [c,b],r)
      else .ok (one 10 at_ [] [c,b],r)
   else if aJ t 0=gW then
    match expr e (a6+1) t.tail with
    |.error x=>.error x
    |.ok (a,t)=>match ba e [59] t with
     |.error x=>.error x
     |.ok t=>.ok (one 11 at_ [] [a],t)
   else simple e a6 t
where
 body (e:Int):Nat->Nat->List T->List Tok->Rd (List T)
  |0,_,_,_=>.error bO
  |f+1,a6,acc,ts =>
   if aJ ts 0=[125]then .ok (acc,ts.tail)
   else match rs e f (.stmt a6) ts with
    |.error x=>.error x
    |.ok (a,ts)=>body e f a6 (acc++[a]) ts
def block(e:Int)(a6:Nat)(ts:List Tok):Rd T:=rs e (nO ts) (.block a6) ts
structure Ar where
 name:ab
 size:Int
structure fX where
 name:ab
 params:List ab
 tree:T
end Go.Xp
namespace Go.Sp
open Go.Xp
structure RS where
 l:List Tok
 i:Nat
 e:Int
 code:Int
 at_:Int
def RS.ok(p:RS):Prop:=p.i<=p.l.length/\p.l.length<=1099511627776
def RS.place(p:RS):Int:=match p.l[p.i]? with|some t=>t.at_|none=>p.e
def RS.fail(p:RS)(c a:Int):RS:=if p.code=0 then⟨p.l,p.i,p.e,c,a⟩else p
def RS.aJ(p:RS)(k:Nat):ab:=if p.code=0 then(match p.l[p.i+k]? with|some t=>dS t|none=>[])else[]
def RS.next(p:RS):RS:=⟨p.l,p.i+1,p.e,p.code,p.at_⟩
def RS.ba(p:RS)(s:ab):RS:=if p.aJ 0=s then p.next else p.fail 7 p.place
def RS.name(p:RS):ab × RS :=
 if p.code=0 then match p.l[p.i]? with
  |some t=>if t.ai=2 then(if t.s.length>12 then([],p.fail 8 t.at_)else(t.s,p.next))else([],p.fail 7 p.place)
  |none=>([],p.fail 7 p.place)
 else([],p)
def RS.a6(p:RS)(d:Nat):RS:=if d>60 then p.fail 9 p.place else p
def T.zero:T:=.mk ⟨0,0,0,[],[]⟩ []
inductive J where
 |expr (d:Nat)
 |level (k d:Nat)
 |loop (k d:Nat) (out:T)
 |operand (d:Nat)
 |named (at_:Int) (s:ab) (d:Nat)
mutual
def mE:Nat->J->RS->Option (T × RS)
 |0,_,_=>none
 |f+1,.expr d,p=>mE f (.level 0 d) (p.a6 d)
 |f+1,.level k d,p =>
  if k=9 then mE f (.operand (d+1)) p
  else match mE f (.level (k+1) d) p with
   |none=>none
   |some (out,p)=>mE f (.loop k d out) p
 |f+1,.loop k d out,p =>
  if p.code=0/\(levels.getD k []).contains (p.aJ 0)=true then
   match p.l[p.i]? with
   |none=>none
   |some t=>match mE f (.level (k+1) d) p.next with
    |none=>none
    |some (b,p)=>mE f (.loop k d (one 6 t.at_ t.s [out,b])) p
  else some (out,p)
 |f+1,.operand d,p =>
  let p:=p.a6 d
  if p.code=0 then match p.l[p.i]? with
   |none=>some (T.zero,p.fail 7 p.place)
   |some t =>
    if t.ai=1 then some (.mk ⟨1,t.at_,t.n,[],[]⟩ [],p.next)
    else if t.ai=2 then mE f (.named t.at_ p.name.1 d) p.name.2
    else if t.s=[45]\/t.s=[33]\/t.s=[126]then match mE f (.operand (d+1)) p.next with
     |none=>none
     |some (a,p)=>some (one 5 t.at_ t.s [a],p)
    else if t.s=[40]then match mE f (.expr (d+1)) p.next with
     |none=>none
     |some (a,p)=>some (a,p.ba [41])
    else some (T.zero,p.fail 7 t.at_)
  else some (T.zero,p.fail 7 p.place)
 |f+1,.named at_ s d,p =>
  if p.aJ 0=[91]then match mE f (.expr (d+1)) p.next with
   |none=>none
   |some (a,p)=>some (one 3 at_ s [a],p.ba [93])
  else if p.aJ 0=[40]then match mL f (d+1) p.next with
   |none=>none
   |some (l,p)=>some (one 4 at_ s l,p)
  else some (one 2 at_ s [],p)
def mL:Nat->Nat->RS->Option (List T × RS)
 |0,_,_=>none
 |f+1,d,p=>if p.aJ 0=[41]then some ([],p.ba [41])else match mE f (.expr d) p with
  |none=>none
  |some (a,p)=>qy f d [a] p
def qy:Nat->Nat->List T->RS->Option (List T × RS)
 |0,_,_,_=>none
 |f+1,d,W,p=>if p.aJ 0=[44]then match mE f (.expr d) p.next with
   |none=>none
   |some (a,p)=>qy f d (W++[a]) p
  else some (W,p.ba [41])
end
def RS.ot(p:RS):Bool:=match p.l[p.i]? with|some t=>decide (t.ai=2)|none=>false
def RS.ck(p:RS):Int:=if p.aJ 0=gy then 9 else 10
inductive JS where
 |block (d:Nat)
 |stmt (d:Nat)
 |cond (at_:Int) (d:Nat)
def fe(p:RS):Nat:=100*p.l.length+2000
def mX(d:Nat)(p:RS):Option (T × RS):=mE (fe p) (.expr d) p
mutual
def mS:Nat->JS->RS->Option (T × RS)
 |0,_,_=>none
 |f+1,.block d,p =>
  let p:=p.a6 d
  match mB f (d+1) [] (p.ba [123])with
  |none=>none
  |some (l,q)=>some (one 14 p.place [] l,q.ba [125])
 |f+1,.stmt d,p =>
  let p:=p.a6 d
  let at_:=p.place
  let s:=p.aJ 0
  if s=l7 then match mX (d+1) ((p.next.name.2).ba [61])with
   |none=>none
   |some (e,q)=>some (one 13 at_ p.next.name.1 [e],q.ba [59])
  else if s=gy\/s=gP then mS f (.cond at_ d) p
  else if s=gW then match mX (d+1) p.next with
   |none=>none
   |some (e,q)=>some (one 11 at_ [] [e],q.ba [59])
  else if p.code=0/\p.ot=true/\p.aJ 1=[61]then match mX (d+1) (p.name.2.ba [61])with
   |none=>none
   |some (e,q)=>some (one 7 at_ p.name.1 [e],q.ba [59])
  else match mX (d+1) p with
   |none=>none
   |some (e,q) =>
    if e.n.ai=3/\e.n.at_=at_/\q.aJ 0=[61]then match e.aw,mX (d+1) q.next with
     |a::_,some (v,q)=>some (one 8 at_ e.n.s [a,v],q.ba [59])
     |_,_=>none
    else some (one 12 at_ [] [e],q.ba [59])
 |f+1,.cond at_ d,p =>
  match mX (d+1) (p.next.ba [40])with
  |none=>none
  |some (e,q)=>match mS f (.block (d+1)) (q.ba [41])with
   |none=>none
   |some (b,q) =>
    if p.ck=9/\q.aJ 0=iH then match mS f (.block (d+1)) q.next with
     |none=>none
     |some (m,q)=>some (one p.ck at_ [] [e,b,m],q)
    else some (one p.ck at_ [] [e,b],q)
def mB:Nat->Nat->List T->RS->Option (List T × RS)
 |0,_,_,_=>none
 |f+1,d,W,p=>if p.code=0/\¬p.aJ 0=[125]then match mS f (.stmt d) p with
   |none=>none
   |some (a,p)=>mB f d (W++[a]) p
  else some (W,p)
end
def dH{p:RS}{k:Nat}{s:ab}(h:p.aJ k=s)(G:s≠[]):p.i+k<p.l.length/\p.code=0:=by
 grind[RS.aJ,Nat.lt_of_not_le,List.getElem?_eq_none_iff]
def RS.to(p q:RS):Prop:=q.l=p.l/\q.e=p.e/\q.i<=q.l.length/\p.i<=q.i
theorem RS.to.ok{p q:RS}(h:p.to q)(W:p.ok):q.ok:=⟨h.2.2.1,by rw[h.1];exact W.2⟩
def RS.to.trans{p q r:RS}(h:p.to q)(k:q.to r):p.to r:=⟨k.1.trans h.1,k.2.1.trans h.2.1,k.2.2.1,jk h.2.2.2 k.2.2.2⟩
section
variable{p:RS}
theorem jV(W:p.ok):p.to p:=⟨rfl,rfl,W.1,aY _⟩
theorem ni(W:p.ok)(c a:Int):p.to (p.fail c a):=by
 unfold RS.fail;split
 ·exact⟨rfl,rfl,W.1,aY _⟩
 ·exact jV W
theorem cY(h:p.i<p.l.length):p.to p.next:=⟨rfl,rfl,h,Nat.le_succ _⟩
theorem b0(W:p.ok){s:ab}(G:s≠[]):p.to (p.ba s):=by
 unfold RS.ba;split
 ·rename_i h;exact cY (by have:=(dH h G).1;omega)
 grind[ni]
theorem eV(W:p.ok):p.to p.name.2:=by
 unfold RS.name
 grind[ni,List.getElem?_eq_some_iff,cY,jV]
theorem iF(W:p.ok)(d:Nat):p.to (p.a6 d):=by
 grind[ni,jV,RS.to,RS.a6]
def dZ{s:ab}(h:p.aJ 0=s)(G:s≠[]):p.to p.next:=cY (by have:=(dH h G).1;omega)
end
def rY:∀(f:Nat),(∀j p t q,p.ok->mE f j p=some (t,q)->p.to q)/\(∀d p l q,p.ok->mL f d p=some (l,q)->p.to q)/\(∀d T p l q,p.ok->qy f d T p=some (l,q)->p.to q)
 |0=>⟨fun j p t q _ h=>by simp[mE]at h,fun d p l q _ h=>by simp[mL]at h,fun d T p l q _ h=>by simp[qy]at h⟩
 |f+1=>by
  have⟨o,m,J⟩:=rY f;refine⟨fun j p t q W h=>?_,fun d p l q W h=>?_,fun d T p l q W h=>?_⟩
  ·cases j with
   |expr d=>rw[mE]at h;exact(iF W d).trans (o _ _ _ _ ((iF W d).ok W) h)
   |level k d =>
    rw[mE]at h;split at h
    ·grind
    ·split at h
     ·cases h
     ·rename_i out i e;have:=o _ _ _ _ W e;exact zcB
   |loop k d out =>
    rw[mE]at h;split at h
    ·split at h
     ·cases h
     ·rename_i n M;have c:=cY (p:=p) (bY M).1;split at h
      ·cases h
      ·rename_i b i e;have:=c.trans (o _ _ _ _ (c.ok W) e);exact zcB
    grind[jV]
   |operand d =>
    rw[mE]at h;have X:=iF W d;have G:=X.ok W;refine X.trans ?_;generalize p.a6 d=p at *
    try simp only at h
    split at h
    ·split at h
     ·grind[ni]
     ·rename_i n M;have c:=cY (p:=p) (bY M).1;split at h
      ·grind
      ·split at h
       ·exact(eV G).trans (o _ _ _ _ ((eV G).ok G) h)
       ·split at h
        ·split at h
         ·cases h
         ·rename_i a i e
          cases h;exact c.trans (o _ _ _ _ (c.ok G) e)
        ·split at h
         ·split at h
          ·cases h
          ·rename_i a i e;have:=c.trans (o _ _ _ _ (c.ok G) e)
           cases h;exact zbY
         grind[ni]
    grind[ni]
   |named a s d =>
    rw[mE]at h;split at h
    ·rename_i H;have c:=dZ H aC;split at h
     ·cases h
     ·rename_i Y i e;have:=c.trans (o _ _ _ _ (c.ok W) e)
      cases h;exact this.trans (b0 (this.ok W) aC)
    ·split at h
     ·rename_i H;have c:=dZ H aC;split at h
      ·cases h
      ·rename_i Y i e
       cases h;exact c.trans (m _ _ _ _ (c.ok W) e)
     grind[jV]
  ·rw[mL]at h;split at h
   ·grind[b0]
   ·split at h
    ·cases h
    ·rename_i a i e;have:=o _ _ _ _ W e;exact this.trans (J _ _ _ _ _ (this.ok W) h)
  ·rw[qy]at h;split at h
   ·rename_i H;have c:=dZ H aC;split at h
    ·cases h
    ·rename_i a i e;have:=c.trans (o _ _ _ _ (c.ok W) e);exact this.trans (J _ _ _ _ _ (this.ok W) h)
   grind[b0]
def small(c:UInt8):Bool:=decide ((97:Int)<=(c.toNat:Int))&&decide ((c.toNat:Int)<=122)
def eM(c:UInt8):Bool:=decide ((48:Int)<=(c.toNat:Int))&&decide ((c.toNat:Int)<=57)
def et(c:UInt8):Bool:=small c ||(decide ((65:Int)<=(c.toNat:Int))&&decide ((c.toNat:Int)<=90)) ||eM c ||((c.toNat:Int)==95)
def fA(c:UInt8):Bool:=((c.toNat:Int)==32) ||((c.toNat:Int)==9) ||((c.toNat:Int)==10) ||((c.toNat:Int)==13)
def cw(s:ab)(at_:Nat)(t:ab):Bool:=decide (at_+t.length<=s.length)&&((s.take (at_+t.length)).drop at_==t)
def iC(s:ab):Nat->Nat->Nat
 |0,e=>e
 |f+1,e=>if e<s.length/\cw s e [42,47]=false then iC s f (e+1)else e
def skip(s:ab):Nat->Nat->Nat × Int
 |0,at_=>(at_,-1)
 |f+1,at_=>match s[at_]? with
  |none=>(at_,-1)
  |some c =>
   if fA c=true then skip s f (at_+1)
   else if cw s at_ [47,42]=true then
    let e:=iC s s.length (at_+2)
    if s.length<=e then(at_,(at_:Int))else skip s f (e+2)
   else(at_,-1)
theorem nD{s t:ab}{a:Nat}(h:cw s a t=true):a+t.length<=s.length:=by
 simp_all[cw,aI,decide_eq_true_eq]
theorem sR(s:ab):∀(f e:Nat),e<=s.length->e<=iC s f e/\iC s f e<=s.length
 |0,e,h=>⟨aY _,h⟩
 |f+1,e,h=>by
  rw[iC];split
  ·rename_i W;have:=sR s f (e+1) W.1;omega
  omega
theorem rW(s:ab):∀(f e:Nat),e<=s.length->s.length<=f+e->¬(iC s f e<s.length/\cw s (iC s f e) [42,47]=false)
 |0,e,h,l=>by rw[iC];omega
 |f+1,e,h,l=>by
  rw[iC];split
  ·rename_i W;exact rW s f (e+1) W.1 aH
  omega
def number(s:ab):Nat->Int->Nat->Int × Nat
 |0,n,a=>(n,a)
 |f+1,n,a=>match s[a]? with
  |none=>(n,a)
  |some c=>if eM c=true then number s f (if n<=2147483647 then n*10+((c.toNat:Int)-48)else n) (a+1)else(n,a)
def run(s:ab)(p:UInt8->Bool):Nat->Nat->Nat
 |0,a=>a
 |f+1,a=>match s[a]? with
  |none=>a
  |some c=>if p c=true then run s p f (a+1)else a
def words:List ab:=[[105,110,116],[118,97,114],[102,117,110,99],[105,102],[101,108,115,101],[119,104,105,108,101],[114,101,116,117,114,110]]
def cy:List ab:=[[124,124],[38,38],[61,61],[33,61],[60,61],[62,61],[60,60],[62,62],[40],[41],[123],[125],[91],[93],[44],[59],[61],[60],[62],[43],[45],[42],[47],[37],[38],[124],[94],[33],[126]]
def ij(s:ab)(a:Nat):Nat:=run s et (s.length+1) a
def jB(s:ab)(a:Nat):ab:=(s.take (ij s a)).drop a
def gT(s:ab)(a:Nat)(c:UInt8):Tok × Nat :=
 if eM c=true then(⟨1,(number s (s.length+1) 0 a).1,[],a⟩,(number s (s.length+1) 0 a).2)
 else if small c=true then(⟨if words.contains (jB s a)=true then 3 else 2,0,jB s a,a⟩,ij s a)
 else match cy.find? (cw s a)with
  |some x=>(⟨3,0,x,a⟩,a+x.length)
  |none=>(⟨0,0,[],0⟩,a)
def qZ(s:ab):Nat->Nat->List Tok->Option (List Tok)
 |0,_,_=>none
 |f+1,a,T=>match s[a]? with
  |none=>some T
  |some c=>qZ s f (skip s (s.length+1) (gT s a c).2).1 (T++[(gT s a c).1])
def iv(s:ab):Option (List Tok):=qZ s (s.length+2) (skip s (s.length+1) 0).1 []
def word(s:ab):Bool:=s.all et&&(match s with|[]=>false|c::_=>small c)
def bm(s:ab):Bool:=word s&&decide (s.length<=12)&&!(words.contains s)
theorem sW(s:ab):∀(f:Nat)(n:Int)(a:Nat),a<=s.length->s.length<f+a->(∀c,s[(number s f n a).2]?=some c->eM c=false)/\a<=(number s f n a).2/\(number s f n a).2<=s.length
 |0,n,a,o,b=>by omega
 |f+1,n,a,o,b=>by
  rw[number]
  cases W:s[a]? with
  |none=>grind
  |some c =>
   simp only;have N:=(bY W).1
   by_cases T:eM c=true
   ·rw[ak T];have⟨G,C,e⟩:=sW s f (if n<=2147483647 then n*10+((c.toNat:Int)-48)else n) (a+1) aH aH
    grind
   grind
theorem lU(s:ab)(p:UInt8->Bool):∀(f:Nat)(a:Nat),a<=s.length->s.length<f+a->(∀c,s[run s p f a]?=some c->p c=false)/\a<=run s p f a/\run s p f a<=s.length
 |0,a,o,b=>by omega
 |f+1,a,o,b=>by
  rw[run]
  cases W:s[a]? with
  |none=>grind
  |some c =>
   simp only;have N:=(bY W).1
   by_cases T:p c=true
   ·rw[ak T];have⟨G,C,e⟩:=lU s p f (a+1) aH aH
    grind
   grind
def tt(s:ab):∀(f a:Nat),a<=s.length->a<=(skip s f a).1/\(skip s f a).1<=s.length
 |0,a,h=>⟨aY _,h⟩
 |f+1,a,h=>by
  rw[skip]
  cases W:s[a]? with
  |none=>grind
  |some c =>
   simp only;have N:=(bY W).1;split
   ·have:=tt s f (a+1) N;omega
   ·split
    ·rename_i i;have i:=nD i;have i:a+2<=s.length:=i;have o:=sR s s.length (a+2) i;have b:=rW s s.length (a+2) i aH;split
     ·omega
     ·rename_i d
      have G:cw s (iC s s.length (a+2)) [42,47]=true:=by
       grind
      have G:=nD G;have G:iC s s.length (a+2)+2<=s.length:=G;have:=tt s f (iC s s.length (a+2)+2) G;omega
    omega
def gk{d:Nat}{p q:RS}{t:T}(W:p.ok)(h:mX d p=some (t,q)):p.to q:=(rY _).1 _ _ _ _ W h
def pU:∀(f:Nat),(∀j p t q,p.ok->(∀a d,j=.cond a d->p.i<p.l.length)->mS f j p=some (t,q)->p.to q)/\(∀d T p l q,p.ok->mB f d T p=some (l,q)->p.to q)
 |0=>⟨fun j p t q _ _ h=>by simp[mS]at h,fun d T p l q _ h=>by simp[mB]at h⟩
 |f+1=>by
  have⟨A,E⟩:=pU f
  have u:∀d(p:RS)t q,p.ok->mS f (.block d) p=some (t,q)->p.to q:=fun d p t q W h=>A _ _ _ _ W (fun a C h=>by cases h) h
  refine⟨fun j p t q W m h=>?_,fun d T p l q W h=>?_⟩
  ·cases j with
   |block d =>
    rw[mS]at h;have X:=iF W d;refine X.trans ?_;have G:=X.ok W;generalize p.a6 d=p at *
    try simp only at h
    have o:=b0 G (s:=[123]) aC;split at h
    ·cases h
    ·rename_i l n k;have:=o.trans (E _ _ _ _ _ (o.ok G) k)
     cases h;exact zbY
   |stmt d =>
    rw[mS]at h;have X:=iF W d;refine X.trans ?_;have G:=X.ok W;generalize p.a6 d=p at *
    try simp only at h
    split at h
    ·rename_i H;have c:=dZ H aC;have z:=c.trans (eV (c.ok G));have R:=z.trans (b0 (z.ok G) (s:=[61]) aC);split at h
     ·cases h
     ·rename_i e n k;have:=R.trans (gk (R.ok G) k)
      cases h;exact zbY
    ·split at h
     ·rename_i H;refine A _ _ _ _ G (fun a C _=>?_) h
      rcases H with H|H
      ·exact(dH H aC).1
      ·exact(dH H aC).1
     ·split at h
      ·rename_i H;have c:=dZ H aC;split at h
       ·cases h
       ·rename_i e n k;have:=c.trans (gk (c.ok G) k)
        cases h;exact zbY
      ·split at h
       ·have z:=eV G;have R:=z.trans (b0 (z.ok G) (s:=[61]) aC);split at h
        ·cases h
        ·rename_i e n k;have:=R.trans (gk (R.ok G) k)
         cases h;exact zbY
       ·split at h
        ·cases h
        ·rename_i e n k;have hx:=gk G k;split at h
         ·rename_i H;have c:=hx.trans (dZ H.2.2 aC);split at h
          ·rename_i a r v Y N B;have:=c.trans (gk (c.ok G) B)
           cases h;exact zbY
          ·cases h
         ·cases h;exact hx.trans (b0 (hx.ok G) aC)
   |cond a d =>
    rw[mS]at h;have c:=cY (m a d rfl);have o:=c.trans (b0 (c.ok W) (s:=[40]) aC)
    try simp only at h
    split at h
    ·cases h
    ·rename_i e n k;have hx:=o.trans (gk (o.ok W) k);have S:=hx.trans (b0 (hx.ok W) (s:=[41]) aC);split at h
     ·cases h
     ·rename_i b Y F;have O:=S.trans (u _ _ _ _ (S.ok W) F);split at h
      ·rename_i H;have w:=O.trans (dZ H.2 aC);split at h
       ·cases h
       ·rename_i J M Q
        cases h;exact w.trans (u _ _ _ _ (w.ok W) Q)
      grind
  ·rw[mB]at h;split at h
   ·split at h
    ·cases h
    ·rename_i a n k;have:=A _ _ _ _ W (fun a C h=>by cases h) k;exact this.trans (E _ _ _ _ _ (this.ok W) h)
   grind[jV]
structure Fn where
 name:ab
 params:List ab
 body:Int
structure Src where
 aq:List ab
 aj:List Ar
 av:List Fn
 ah:List Nd
def nQ(k:Int):Bool:=decide ((1:Int)<=k)&&decide (k<=6)
def im(k:Int):Bool:=decide ((7:Int)<=k)&&decide (k<=13)
def bR(l:Nat):Nat->List T->Bool
 |_,[]=>true
 |i,t::r=>(if i<l then nQ t.n.ai else t.n.ai==14)&&bR l (i+1) r
def eD(s:ab):Bool:=levels.any fun l=>l.contains s
mutual
def sub(ah:List Nd):Nat->Nat->Option T
 |0,_=>none
 |f+1,a=>match ah[a]? with
  |none=>none
  |some n=>match pC ah f n.aw []with
   |none=>none
   |some l=>some (.mk n l)
def pC(ah:List Nd):Nat->List Int->List T->Option (List T)
 |_,[],W=>some W
 |0,_::_,_=>none
 |f+1,k::r,W=>if k<0 then none else match sub ah f k.toNat with
  |none=>none
  |some t=>pC ah f r (W++[t])
end
mutual
def py(ah:List Nd):Nat->Nat->Nat->Option Int
 |0,_,_=>none
 |f+1,a,d=>if ah.length<=a\/d>800 then some (-1)else match ah[a]? with
  |none=>none
  |some n=>px ah f n.aw (a+1) d
def px(ah:List Nd):Nat->List Int->Int->Nat->Option Int
 |_,[],next,_=>some next
 |0,_::_,_,_=>none
 |f+1,k::r,next,d=>if k=next then match py ah f k.toNat (d+1)with
   |none=>none
   |some e=>if e<0 then some (-1)else px ah f r e d
  else some (-1)
end
def own(n:Nd)(k:Nat)(l:Nat->Bool)(o:Bool):Bool :=
 if decide (n.at_<0)then false else if n.ai != 1&&n.n != 0 then false
 else if n.ai==1 then decide ((0:Int)<=n.n)&&(decide (n.n<=2147483647)&&(n.s==[]&&(k:Int)==0))
 else if n.ai==2 then bm n.s&&(k:Int)==0
 else if n.ai==3 ||n.ai==7 ||n.ai==13 then bm n.s&&((k:Int)==1&&l 1)
 else if n.ai==4 then bm n.s&&l k
 else if n.ai==5 then(n.s==[45] ||n.s==[33] ||n.s==[126])&&((k:Int)==1&&l 1)
 else if n.ai==6 then eD n.s&&((k:Int)==2&&l 2)
 else if n.ai==8 then bm n.s&&((k:Int)==2&&l 2)
 else if n.ai==9 then n.s==[]&&(((k:Int)==2 ||(k:Int)==3)&&l 1)
 else if n.ai==10 then n.s==[]&&((k:Int)==2&&l 1)
 else if n.ai==11 ||n.ai==12 then n.s==[]&&((k:Int)==1&&l 1)
 else if n.ai==14 then o&&n.s==[]
 else false
def cN(t:T):Bool:=own t.n t.aw.length (fun m=>bR m 0 t.aw) (t.aw.all fun x=>im x.n.ai)
mutual
def dC:T->Bool
 |.mk n l=>c9 l&&cN (.mk n l)
def c9:List T->Bool
 |[]=>true
 |t::r=>dC t&&c9 r
end
mutual
def GQ:T->Prop
 |.mk n l=>n.s.length<=1099511627776/\l.length<=1099511627776/\xb l
def xb:List T->Prop
 |[]=>True
 |t::r=>GQ t/\xb r
end
def GS:∀{l:List T}{t:T},xb l->t∈l->GQ t
 |[],_,_,h=>by cases h
 |a::r,t,h,hm=>by
  rw[xb]at h
  rcases List.mem_cons.mp hm with rfl|hm
  ·exact h.1
  ·exact GS h.2 hm
theorem GR:∀{l:List T}{t:T},xb l->GQ t->xb (l++[t])
 |[],t,_,M=>⟨M,trivial⟩
 |a::r,t,h,M=>by
  rw[xb]at h;exact⟨h.1,GR h.2 M⟩
def YL{ah:List Nd}(N:∀n∈ah,n.s.length<=1099511627776/\n.aw.length<=1099511627776):∀f:Nat,(∀a t,sub ah f a=some t->GQ t)/\(∀ks T l,pC ah f ks T=some l->T.length+ks.length=l.length/\(xb T->xb l)):=by
 intro f
 induction f with
 |zero =>
  refine⟨fun a t h=>by simp[sub]at h,fun ks T l h=>?_⟩
  cases ks with
  |nil=>grind[pC]
  |cons k r=>simp[pC]at h
 |succ f O =>
  constructor
  ·intro a t h;rw[sub]at h
   cases c:ah[a]? with
   |none=>grind
   |some n =>
   rw[c]at h;simp only at h
   cases G:pC ah f n.aw []with
   |none=>grind
   |some l =>
   rw[G]at h;cases h;have j:=O.2 _ _ _ G;have i:=N n (bP c);exact⟨i.1,by grind,j.2 trivial⟩
  ·intro ks T l h
   cases ks with
   |nil=>grind[pC]
   |cons k r =>
    rw[pC]at h
    by_cases Y:k<0
    ·grind
    grind[GR]
def dq:List ab->Bool:=fun l=>l.all bm
def kc(a:Ar):Bool:=bm a.name&&!(decide (a.size<0))&&!(decide (2147483647<a.size))
def fN(ah:List Nd):Nat:=2*ah.length+4
def jt(ah:List Nd):List Fn->Int->Option (Option Int)
 |[],next=>some (some next)
 |f::r,next=>match py ah (fN ah) next.toNat 0 with
  |none=>none
  |some e=>if f.body≠next\/bm f.name=false\/e<0 then some none else if dq f.params=false then some none else match sub ah (fN ah) next.toNat with
   |none=>none
   |some t=>if t.n.ai≠14\/dC t=false then some none else jt ah r e
def pf(p:Src):Option Bool :=
 if dq p.aq=false then some false else if p.aj.all kc=false then some false else match jt p.ah p.av 0 with
  |none=>none
  |some none=>some false
  |some (some next)=>some (next==(p.ah.length:Int)&&decide (next<=800))
end Go.Sp
namespace Go.Xp
section
variable{e:Int}{s:ab}{ts r:List Tok}
theorem Cy(h:ba e s ts=.ok r):r=ts.tail/\aJ ts 0=s:=by
 grind[ba]
def wZ(h:ba e s ts=.ok r):r.length<=ts.length:=by
 rw[(Cy h).1,List.length_tail];omega
def yR(G:s≠[])(h:ba e s ts=.ok r):r.length<ts.length:=by
 have⟨o,b⟩:=Cy h;rw[o,List.length_tail]
 cases ts with
 |nil=>exact absurd b.symm G
 |cons=>simp
end
def dH{s:ab}{ts:List Tok}(G:s≠[])(h:aJ ts 0=s):ts.tail.length<ts.length:=by
 cases ts with
 |nil=>exact absurd h.symm G
 |cons=>simp
theorem rD{e:Int}{s:ab}{ts:List Tok}{x:Er}(h:ba e s ts=.error x):x≠bO:=by
 unfold ba at h;grind[bO]
def F7{e:Int}{s:ab}{ts r:List Tok}(h:name e ts=.ok (s,r)):r.length<ts.length:=by
 unfold name at h;grind
theorem JF{e:Int}{ts:List Tok}{x:Er}(h:name e ts=.error x):x≠bO:=by
 unfold name at h;grind[bO]
def pA:uq->Nat->Nat
 |.operand _,n=>20*n+1
 |.loop _ _ _,n=>20*n+1
 |.level k _,n=>20*n+2+(9-k)
 |.expr _,n=>20*n+12
def sV(W:List T)(n:Nat):Nat:=match W with|[]=>20*n+14|_=>20*n+1
def A0:uq->Prop
 |.level k _=>k<=9
 |.loop k _ _=>k<9
 |_=>True
def good(e:Int)(f:Nat)(j:uq)(ts:List Tok):Prop :=
 A0 j->(∀t r,rd e f j ts=.ok (t,r)->r.length<=ts.length)/\(pA j ts.length<=f->rd e f j ts≠.error bO)
def SR(e:Int)(f a6:Nat)(W:List T)(ts:List Tok):Prop :=
 (∀t r,rd.args e f a6 W ts=.ok (t,r)->r.length<=ts.length)/\(sV W ts.length<=f->rd.args e f a6 W ts≠.error bO)
theorem er7{a:Int}:((7,a):Er)≠bO:=by intro h;cases h
def CE(e:Int):∀f,(∀j ts,good e f j ts)/\(∀a6 T ts,SR e f a6 T ts)
 |0=>by
  refine⟨fun j ts _=>⟨fun t r h=>?_,fun h=>?_⟩,fun a6 T ts=>⟨fun t r h=>?_,fun h=>?_⟩⟩
  ·grind[rd]
  ·cases j<;>simp only[pA]at h<;>omega
  ·grind[rd.args]
  ·unfold sV at h;grind
 |f+1=>by
  have⟨O,S⟩:=CE e f;constructor
  ·intro j ts Y
   cases j with
   |expr a6 =>
    have⟨o,c⟩:=O (.level 0 (a6+1)) ts (bp _);rw[rd];split
    ·exact zcG
    ·exact⟨o,fun h=>c (by grind[pA])⟩
   |level k a6 =>
    have Y:k<=9:=Y;rw[rd];split
    ·have⟨o,c⟩:=O (.operand a6) ts trivial;exact⟨o,fun h=>c (by grind[pA])⟩
    ·obtain⟨o,c⟩:=O (.level (k+1) a6) ts (by grind[A0]);split
     ·grind[pA]
     ·rename_i out v hx;obtain⟨G,C⟩:=O (.loop k a6 out) v (by show k<9;omega);have:=o _ _ hx;exact⟨fun t r h=>jk (G t r h) this,fun h=>C (by grind[pA])⟩
   |loop k a6 out =>
    have Y:k<9:=Y
    cases ts with
    |nil=>rw[rd];simp
    |cons m r0 =>
     rw[rd];split
     ·obtain⟨o,c⟩:=O (.level (k+1) a6) r0 (by grind[A0]);split
      ·grind[pA]
      ·rename_i b r hx;have⟨G,C⟩:=O (.loop k a6 (one 6 m.at_ m.s [out,b])) r Y;have:=o _ _ hx;exact⟨fun t r h=>by grind,fun h=>C (by grind[pA])⟩
     simp
   |operand a6 =>
    cases ts with
    |nil=>rw[rd];split<;>exact⟨fun t r h=>zfn,fun _ h=>zfn⟩
    |cons m r0 =>
    rw[rd];split
    ·exact zcG
    split
    ·split
     ·have⟨o,c⟩:=O (.operand (a6+1)) r0 trivial;split
      ·grind[pA]
      grind
     split
     ·have⟨o,c⟩:=O (.expr (a6+1)) r0 trivial;split
      ·grind[pA]
      ·rename_i a r hx;have:=o _ _ hx;split
       ·grind[rD]
       ·rename_i z l;have:=wZ l
        grind
     ·exact zcG
    split
    ·simp
    split
    ·grind[JF]
    ·rename_i s r d;have M:=F7 d;simp only[length_cons]at M
     have N:r.tail.length<=r.length:=by simp
     split
     ·have⟨o,c⟩:=O (.expr (a6+1)) r.tail trivial;split
      ·grind[pA]
      ·rename_i a z hx;have:=o _ _ hx;split
       ·grind[rD]
       ·rename_i Q l;have:=wZ l
        grind
     split
     ·have⟨o,c⟩:=S (a6+1) [] r.tail;split
      ·rename_i x hx;exact⟨fun t r h=>zfn,fun h q=>c (by grind[pA,length_cons,sV]) (hx.trans zff)⟩
      grind
     grind
  ·intro a6 T ts;unfold SR;rw[rd.args];split
   ·simp
   ·by_cases u:T=[]
    ·subst u;simp only[if_true];have⟨o,c⟩:=O (.expr a6) ts trivial;split
     ·rename_i x hx;exact⟨fun t r h=>zfn,fun h q=>c (by grind[sV,pA]) (hx.trans zff)⟩
     ·rename_i a r hx;have:=o _ _ hx;have⟨G,C⟩:=S a6 ([]++[a]) r;exact⟨fun t r h=>by grind,fun h=>C (by grind[sV])⟩
    ·rw[ae u]
     have w:∀n,sV T n=20*n+1:=by simp[sV]
     split
     ·grind[rD]
     ·rename_i v l;have N:=yR aC l;have⟨o,c⟩:=O (.expr a6) v trivial;split
      ·grind[pA]
      ·rename_i a r hx;have:=o _ _ hx;have⟨G,C⟩:=S a6 (T++[a]) r
       have i:sV (T++[a]) r.length=20*r.length+1:=by
        simp[sV]
       grind
section
variable{e:Int}{f:Nat}{j:uq}{ts:List Tok}
def Yq{t:T}{r:List Tok}(Y:A0 j)(h:rd e f j ts=.ok (t,r)):r.length<=ts.length:=((CE e f).1 j ts Y).1 t r h
def yV(Y:A0 j)(h:pA j ts.length<=f):rd e f j ts≠.error bO:=((CE e f).1 j ts Y).2 h
end
section
variable{e:Int}{a6:Nat}
theorem Dg{ts:List Tok}:expr e a6 ts≠.error bO:=yV (j:=.expr a6) trivial (by simp[pA,nO])
def y3{ts:List Tok}{t:T}{r:List Tok}(h:expr e a6 ts=.ok (t,r)):r.length<=ts.length:=Yq (j:=.expr a6) trivial h
def z7{a b:ab}{ts r:List Tok}{t:T}(ha:a≠[])(h:inner e a6 a b ts=.ok (t,r)):r.length<ts.length:=by
 unfold inner at h;split at h
 ·cases h
 ·rename_i Z o;split at h
  ·cases h
  ·rename_i a1 i c;split at h
   ·cases h
   ·rename_i X G;cases h;have:=yR ha o;have:=y3 c;have:=wZ G;omega
theorem z6{a b:ab}{ts:List Tok}{x:Er}(h:inner e a6 a b ts=.error x):x≠bO:=by
 grind[inner,rD,Dg]
def GG{ts r:List Tok}{t:ab × T}(h:mb e a6 ts=.ok (t,r)):r.length<ts.length:=by
 unfold mb at h;split at h
 ·cases h
 ·rename_i s Z o;split at h
  ·cases h
  ·rename_i a i b;cases h;have:=F7 o;have:=z7 aC b;omega
theorem GD{ts:List Tok}{x:Er}(h:mb e a6 ts=.error x):x≠bO:=by
 grind[mb,JF,z6]
theorem E9{ts:List Tok}{x:Er}(h:expr e a6 ts=.error x):x≠bO:=fun o=>Dg (h.trans (by rw[o]))
theorem Po{ts r:List Tok}{t:T}(h:simple e a6 ts=.ok (t,r)):r.length<ts.length:=by
 unfold simple at h;split at h
 ·grind
 ·rename_i l r0;split at h
  ·split at h
   ·cases h
   ·rename_i s a Z o;cases h;exact GG o
  ·split at h
   ·cases h
   ·rename_i a Z o;have:=y3 o;split at h
    ·split at h
     ·cases h
     ·rename_i v i b;cases h;have:=z7 aC b;omega
    ·split at h
     ·cases h
     ·rename_i i b;cases h;have:=yR aC b;omega
theorem Pm{ts:List Tok}{x:Er}(h:simple e a6 ts=.error x):x≠bO:=by
 unfold simple at h
 grind[E9,er7,GD,z6,rD]
end
def Ld(e:Int)(f:Nat)(j:tA)(ts:List Tok):Prop :=
 (∀t r,rs e f j ts=.ok (t,r)->r.length<ts.length)/\(3*ts.length+1<=f->rs e f j ts≠.error bO)
def Lc(e:Int)(f a6:Nat)(W:List T)(ts:List Tok):Prop :=
 (∀t r,rs.body e f a6 W ts=.ok (t,r)->r.length<ts.length)/\(3*ts.length+2<=f->rs.body e f a6 W ts≠.error bO)
def J1(e:Int):∀f,(∀j ts,Ld e f j ts)/\(∀a6 T ts,Lc e f a6 T ts)
 |0=>by
  grind[rs,rs.body,Ld,Lc]
 |f+1=>by
  have⟨O,S⟩:=J1 e f;constructor
  ·intro j ts;unfold Ld
   cases j with
   |block a6 =>
    rw[rs];split
    ·simp[Rd,Er,place,bO]
    ·split
     ·grind[rD]
     ·rename_i r0 l;have o:=yR aC l;have⟨q,d⟩:=S (a6+1) [] r0
      grind
   |stmt a6 =>
    rw[rs];split
    ·simp[Rd,Er,place,bO]
    ·simp only;split
     ·rename_i k;have o:=dH aC k;split
      ·grind[GD]
      ·rename_i s a Z hx;have:=GG hx
       grind
     split
     ·rename_i k
      have o:ts.tail.length<ts.length:=by
       rcases k with k|k<;>exact dH aC k
      split
      ·grind[z6]
      ·rename_i c i hx;have W:=z7 aC hx;have⟨q,d⟩:=O (.block (a6+1)) i;split
       ·grind
       ·rename_i b R B;have m:=q _ _ B;split
        ·split
         ·have⟨G,C⟩:=O (.block (a6+1)) R.tail
          grind
         grind
        grind
     split
     ·rename_i k;have o:=dH aC k;split
      ·grind[E9]
      ·rename_i a i hx;have:=y3 hx;split
       ·grind[rD]
       ·rename_i R l;have:=wZ l
        grind
     grind[Po,Pm]
  ·intro a6 T ts;unfold Lc;rw[rs.body];split
   ·rename_i k;have o:=dH aC k
    grind
   ·have⟨q,d⟩:=O (.stmt a6) ts;split
    ·grind
    ·rename_i a r hx;have:=q _ _ hx;have⟨G,C⟩:=S a6 (T++[a]) r
     grind
def wu{e:Int}{a6:Nat}{ts:List Tok}:block e a6 ts≠.error bO:=((J1 e _).1 (.block a6) ts).2 (by grind[nO])
end Go.Xp
namespace Go.Sp
open Go.Xp
structure On(p:RS)(ts:List Tok):Prop where
 code:p.code=0
 le:p.i<=p.l.length
 rest:p.l.drop p.i=ts
 kinds:∀t∈p.l,t.ai=1\/t.ai=2\/t.ai=3
def cZ(p q:RS):Except Er (List Tok)->Prop
 |.ok r=>On q r/\q.l=p.l/\q.e=p.e
 |.error x=>q.code=x.1/\x.1≠0/\q.at_=x.2/\q.l=p.l/\q.e=p.e
def eZ{R:Type}(p q:RS)(t:R):Rd R->Prop
 |.ok (k,r)=>t=k/\cZ p q (.ok r)
 |.error x=>cZ p q (.error x)
section
variable{p q q':RS}{ts r:List Tok}{x:Er}
theorem cZ.err(h:cZ p q (.error x)):q.code≠0:=by rw[h.1];exact h.2.1
theorem cZ.tr{y:Except Er (List Tok)}(h:cZ p q (.ok r))(k:cZ q q' y):cZ p q' y:=by
 have⟨_,o,b⟩:=h
 cases y with
 |ok r=>grind[cZ]
 |error x=>grind[cZ]
def eZ.tr{R:Type}{t:R}{y:Rd R}(h:cZ p q (.ok r))(k:eZ q q' t y):eZ p q' t y:=by
 cases y with
 |ok r=>have⟨l,r⟩:=r;exact⟨k.1,h.tr k.2⟩
 |error x=>exact h.tr (y:=.error x) k
def On.self(h:On p ts):cZ p p (.ok ts):=⟨h,rfl,rfl⟩
def On.at(h:On p ts)(k:Nat):p.l[p.i+k]?=ts[k]?:=by rw[<-h.rest,List.getElem?_drop]
theorem On.aJ(h:On p ts)(k:Nat):p.aJ k=Go.Xp.aJ ts k:=by
 unfold RS.aJ Go.Xp.aJ;rw[ak h.code,h.at]
 try rfl
theorem On.place(h:On p ts):p.place=Go.Xp.place p.e ts:=by
 have o:=h.at 0;unfold RS.place;rw[Nat.add_zero]at o;rw[o]
 cases ts with
 |nil=>rfl
 |cons t r=>rfl
theorem On.next{t:Tok}(h:On p (t::r)):cZ p p.next (.ok r):=by
 have o:p.i<p.l.length:=by
  have:=congrArg List.length h.rest
  grind
 refine⟨⟨h.code,o,?_,h.kinds⟩,rfl,rfl⟩;show p.l.drop (p.i+1)=r;rw[<-List.tail_drop,h.rest];rfl
theorem On.fail(h:On p ts)(c a:Int)(W:c≠0):cZ p (p.fail c a) (.error (c,a)):=by
 unfold RS.fail;rw[ak h.code];exact⟨rfl,W,rfl,rfl,rfl⟩
theorem tO(h:p.code≠0)(c a:Int):p.fail c a=p:=by grind[RS.fail]
theorem my(h:p.code≠0)(k:Nat):p.aJ k=[]:=by grind[RS.aJ]
theorem iU(h:p.code≠0){s:ab}(G:s≠[]):p.ba s=p:=by
 unfold RS.ba
 simp_all[my,ae,tO]
theorem rq(h:p.code≠0)(d:Nat):p.a6 d=p:=by grind[tO,RS.a6]
theorem eF{s:ab}(G:s≠[])(h:Go.Xp.aJ ts 0=s):∃t,ts=t::ts.tail/\t.ai=3/\t.s=s:=by
 cases ts with
 |nil=>exact absurd h.symm G
 |cons t r =>
  grind[Go.Xp.aJ,getElem?_cons_zero,dS]
theorem On.ba(h:On p ts){s:ab}(G:s≠[]):cZ p (p.ba s) (Go.Xp.ba p.e s ts):=by
 unfold RS.ba Go.Xp.ba;rw[h.aJ]
 by_cases o:Go.Xp.aJ ts 0=s
 ·rw[ak o,ak o];have⟨t,M,_⟩:=eF G o;rw[M]at h
  exact h.next
 ·rw[ae o,ae o,h.place];exact h.fail 7 _ aC
theorem On.name(h:On p ts):eZ p p.name.2 p.name.1 (Go.Xp.name p.e ts)\/∃x,Go.Xp.name p.e ts=.error x/\cZ p p.name.2 (.error x):=by
 have o:=h.at 0;rw[Nat.add_zero]at o;unfold RS.name;rw[ak h.code,o]
 cases ts with
 |nil=>exact .inr ⟨_,rfl,by rw[h.place];exact h.fail 7 _ aC⟩
 |cons t r =>
  simp only[getElem?_cons_zero,Go.Xp.name];split
  ·split
   ·exact .inr ⟨_,rfl,h.fail 8 _ aC⟩
   ·exact .inl ⟨rfl,h.next⟩
  ·refine .inr ⟨_,rfl,?_⟩;have:p.place=t.at_:=h.place;rw[this];exact h.fail 7 _ aC
end
theorem AZ{p:RS}(h:p.code≠0):(∀g d,1<=g->mE g (.operand d) p=some (T.zero,p))/\(∀g k d out,1<=g->mE g (.loop k d out) p=some (out,p))/\(∀n g k d,k+n=9->n+2<=g->mE g (.level k d) p=some (T.zero,p)):=by
 have o:∀g d,1<=g->mE g (.operand d) p=some (T.zero,p):=by
  intro g d X
  cases g with
  |zero=>omega
  |succ g=>rw[mE];grind[rq,tO]
 have b:∀g k d out,1<=g->mE g (.loop k d out) p=some (out,p):=by
  intro g k d out X
  cases g with
  |zero=>omega
  |succ g=>grind[mE]
 refine⟨o,b,fun n=>?_⟩
 induction n with
 |zero =>
  intro g k d N X
  cases g with
  |zero=>omega
  |succ g=>grind[mE,T.zero]
 |succ n O =>
  intro g k d N X
  cases g with
  |zero=>omega
  |succ g =>
   grind[mE,T.zero]
def XY{p:RS}(h:p.code≠0){g d:Nat}(hg:12<=g):mE g (.expr d) p=some (T.zero,p):=by
 cases g with
 |zero=>omega
 |succ g=>grind[rq,AZ,mE,T.zero]
def KF(f:Nat):Nat:=2*f+20
structure JE(f:Nat):Prop where
 expr:∀d ts p,On p ts->rd p.e f (.expr d) ts≠.error bO->∃t q,(∀g,KF f<=g->mE g (.expr d) p=some (t,q))/\eZ p q t (rd p.e f (.expr d) ts)
 level:∀k d ts p,k<=9->On p ts->rd p.e f (.level k (d+1)) ts≠.error bO->∃t q,(∀g,KF f<=g->mE g (.level k d) p=some (t,q))/\eZ p q t (rd p.e f (.level k (d+1)) ts)
 loop:∀k d out ts p,k<9->On p ts->rd p.e f (.loop k (d+1) out) ts≠.error bO->∃t q,(∀g,KF f<=g->mE g (.loop k d out) p=some (t,q))/\eZ p q t (rd p.e f (.loop k (d+1) out) ts)
 operand:∀d ts p,On p ts->rd p.e f (.operand d) ts≠.error bO->∃t q,(∀g,KF f<=g->mE g (.operand d) p=some (t,q))/\eZ p q t (rd p.e f (.operand d) ts)
 args:∀d acc ts p,acc≠[]->On p ts->rd.args p.e f d acc ts≠.error bO->∃t q,(∀g,KF f<=g->qy g d acc p=some (t,q))/\eZ p q t (rd.args p.e f d acc ts)
 args0:∀d ts p,On p ts->rd.args p.e f d [] ts≠.error bO->∃t q,(∀g,KF f<=g->mL g d p=some (t,q))/\eZ p q t (rd.args p.e f d [] ts)
theorem Bg:∀k,(levels.getD k []).contains []=false:=by
 intro k
 have h:∀l∈levels,l.contains ([]:ab)=false:=by decide
 grind
def up{f g:Nat}(h:KF (f+1)<=g):∃Q,g=Q+1/\KF f+1<=Q:=⟨g-1,by grind[KF],by grind[KF]⟩
def yl{β:Type}{n m:Nat}(j:n<m){F:Nat->Option (β × RS)}{R:β->RS->Prop}(h:∃t q,(∀g,n<=g->F (g+1)=some (t,q))/\R t q):∃t q,(∀g,m<=g->F g=some (t,q))/\R t q:=by
 have⟨t,q,o,b⟩:=h;refine⟨t,q,fun g X=>?_,b⟩;obtain⟨k,rfl⟩:∃k,g=k+1:=⟨g-1,by omega⟩;exact o k aH
def yu(f:Nat):KF f+1<KF (f+1):=by unfold KF;omega
def eZ.gA{R β:Type}{p i:RS}{r0:List Tok}{n m:Nat}{X:Rd R}{Y:Rd β}{F:Nat->Option (β × RS)}{G:Nat->Option (R × RS)}(hn:cZ p i (.ok r0))
  (O:X≠.error bO->∃t q,(∀g,n<=g->G g=some (t,q))/\eZ i q t X)(h:Y≠.error bO)
  (err:∀(b:R)(q:RS),q.code≠0->(∀g,n<=g->G g=some (b,q))->∃t,∀g,m<=g->F g=some (t,q))
  (ok:∀(b:R)(q:RS)(r:List Tok),X=.ok (b,r)->cZ p q (.ok r)->(∀g,n<=g->G g=some (b,q))->∃t q',(∀g,m<=g->F g=some (t,q'))/\eZ q q' t Y)
  (J:∀x,X=.error x->Y=.error x:=by intro x e;first|rw[e]|erw[e]):∃t q,(∀g,m<=g->F g=some (t,q))/\eZ p q t Y:=by
 cases o:X with
 |error x =>
  obtain⟨b,q,s,c⟩:=O (by rw[o];exact fun u=>h (by rw[J x o,Except.error.inj u]));obtain⟨t,M⟩:=err b q (cZ.err (by rw[o]at c;exact c)) s;rw[o]at c;rw[J x o];exact⟨t,q,M,hn.tr (y:=.error x) c⟩
 |ok x =>
  have⟨a,r⟩:=x;obtain⟨b,q,s,c⟩:=O (by rw[o];simp);rw[o]at c;obtain⟨rfl,c⟩:=c;have⟨t,q',C,j⟩:=ok b q r o (hn.tr c) s;exact⟨t,q',C,eZ.tr (hn.tr c) j⟩
theorem cZ.ba{R:Type}{p q:RS}{r:List Tok}{s:ab}{t:R}(h:cZ p q (.ok r))(G:s≠[]):eZ q (q.ba s) t (match Go.Xp.ba p.e s r with|.error x=>.error x|.ok r=>.ok (t,r)):=by
 have j:=h.1.ba G;rw[h.2.2]at j
 cases T:Go.Xp.ba p.e s r with
 |error x=>rw[T]at j;exact j
 |ok S=>rw[T]at j;exact⟨rfl,j⟩
def je(f:Nat):JE f:=by
 induction f with
 |zero =>
  refine⟨fun d ts p _ h=>absurd ?_ h,fun k d ts p _ _ h=>absurd ?_ h,fun k d out ts p _ _ h=>absurd ?_ h,fun d ts p _ h=>absurd ?_ h,fun d E ts p _ _ h=>absurd ?_ h,fun d ts p _ h=>absurd ?_ h⟩<;>simp[rd,rd.args]
 |succ f C =>
  refine⟨fun d ts p c h=>yl (yu f) ?_,fun k d ts p hk c h=>yl (yu f) ?_,fun k d out ts p hk c h=>yl (yu f) ?_,fun d ts p c h=>yl (yu f) ?_,fun d E ts p aaP c h=>yl (yu f) ?_,fun d ts p c h=>yl (yu f) ?_⟩
  ·rw[rd]at h |-
   by_cases W:d>60
   ·rw[ak W];have J:=c.fail 9 p.place aC;refine⟨T.zero,p.fail 9 p.place,fun g j=>?_,by rw[<-c.place];exact J⟩;rw[mE];unfold RS.a6;rw[ak W];exact(AZ J.err).2.2 9 g 0 d rfl (by grind[KF])
   ·rw[ae W]at h |-;have⟨t,q,h1,M⟩:=C.level 0 d ts p aH c h;refine⟨t,q,fun g j=>?_,M⟩;rw[mE];grind[mE,RS.a6]
  ·rw[rd]at h |-
   by_cases h9:k=9
   ·rw[ak h9]at h |-;have⟨t,q,h1,M⟩:=C.operand (d+1) ts p c h;exact⟨t,q,fun g j=>by grind[mE],M⟩
   ·rw[ae h9]at h |-
    refine eZ.gA c.self (C.level (k+1) d ts p aH c) h (fun b q z e=>⟨b,fun g j=>?_⟩) fun b q r w o e=>?_
    ·rw[mE,ae h9,e g aH];exact(AZ z).2.1 g _ _ _ aH
    ·erw[w]at h |-;simp only at h |-;rw[<-o.2.2]at h |-
     have⟨t,q',h3,R⟩:=C.loop k d b r q aH o.1 h;exact⟨t,q',fun g j=>by grind[mE],R⟩
  ·cases ts with
   |nil =>
    rw[rd];refine⟨out,p,fun g j=>?_,rfl,c.self⟩;rw[mE,ae];rw[c.aJ];rintro⟨_,h0⟩
    grind[aJ,Bg]
   |cons t r =>
    rw[rd]at h |-;have hs:p.aJ 0=dS t:=c.aJ 0
    by_cases H:t.ai=3/\t.s∈levels.getD k []
    ·rw[ak H]at h |-;have B:p.l[p.i]?=some t:=c.at 0;have S:p.code=0/\(levels.getD k []).contains (p.aJ 0)=true:=⟨c.code,by simp_all[dS,ak]⟩
     refine eZ.gA c.next (C.level (k+1) d r p.next aH c.next.1) h (fun b q z e=>⟨one 6 t.at_ t.s [out,b],fun g j=>?_⟩) fun b q O w o e=>?_
     ·rw[mE,ak S,B];simp only;rw[e g aH];exact(AZ z).2.1 g _ _ _ aH
     ·erw[w]at h |-;simp only at h |-;rw[<-o.2.2]at h |-
      have⟨t3,q3,h3,R⟩:=C.loop k d (one 6 t.at_ t.s [out,b]) O q hk o.1 h;exact⟨t3,q3,fun g j=>by grind[mE],R⟩
    ·rw[ae H];refine⟨out,p,fun g j=>?_,rfl,c.self⟩;rw[mE,ae]
     grind[dS,Bg]
  ·rw[rd.eq_def]at h |-;simp only at h |-
   by_cases W:d>60
   ·rw[ak W];have J:=c.fail 9 p.place aC;refine⟨T.zero,p.fail 9 p.place,fun g j=>?_,by rw[<-c.place];exact J⟩;rw[mE];unfold RS.a6;rw[ak W];simp[J.err,tO J.err]
   ·rw[ae W]at h |-
    have hdp:p.a6 d=p:=by grind[RS.a6]
    cases ts with
    |nil =>
     have h0:p.l[p.i]?=none:=c.at 0;exact⟨T.zero,p.fail 7 p.place,fun g j=>by grind[mE,T.zero,RS.fail,RS.place],by rw[c.place];exact c.fail 7 _ aC⟩
    |cons t r =>
     simp only at h |-;have B:p.l[p.i]?=some t:=c.at 0
     have v:=c.next
     have n:=fun g=>mE.eq_def (g+1) (.operand d) p
     simp only[hdp,c.code,B,if_true]at n
     by_cases h3:t.ai=3
     ·rw[ak h3]at h |-;simp only[show ¬t.ai=1 by omega,show ¬t.ai=2 by omega,if_false]at n
      by_cases hu:t.s=[45]\/t.s=[33]\/t.s=[126]
      ·rw[ak hu]at h |-;simp only[ak hu]at n
       exact eZ.gA v (C.operand (d+1) r p.next v.1) h (fun b q z e=>⟨_,fun g j=>by rw[n,e g aH]⟩) fun b q O w o e=>by erw[w];exact⟨_,_,fun g j=>by rw[n,e g aH],rfl,o.1.self⟩
      ·rw[ae hu]at h |-;simp only[ae hu]at n
       by_cases u:t.s=[40]
       ·rw[ak u]at h |-;simp only[ak u]at n
        exact eZ.gA v (C.expr (d+1) r p.next v.1) h (fun b q z e=>⟨b,fun g j=>by rw[n,e g aH];simp only;rw[iU z aC]⟩) fun b q O w o e=>by erw[w];exact⟨_,_,fun g j=>by rw[n,e g aH],o.ba aC⟩
       ·rw[ae u]at h |-;simp only[ae u]at n;exact⟨_,_,fun g j=>n g,c.fail 7 _ aC⟩
     ·rw[ae h3]at h |-
      by_cases h1:t.ai=1
      ·rw[ak h1];simp only[ak h1]at n;exact⟨_,p.next,fun g j=>n g,rfl,v⟩
      ·rw[ae h1]at h |-
       have M:t.ai=2:=by have:=c.kinds t (bP B);omega
       simp only[ae h1,ak M]at n
       by_cases A:t.s.length>12
       ·have Y:name p.e (t::r)=.error (8,t.at_):=by simp[name,M,A]
        rw[Y];have J:=c.fail 8 t.at_ aC;refine⟨one 2 t.at_ [] [],p.fail 8 t.at_,fun g j=>?_,J⟩
        have Z:p.name=([],p.fail 8 t.at_):=by unfold RS.name;simp[c.code,B,M,A]
        rw[n,Z];obtain⟨g,rfl⟩:∃F,g=F+1:=⟨g-1,by omega⟩;rw[mE,ae (by rw[my J.err];decide),ae (by rw[my J.err];decide)]
       ·have Y:name p.e (t::r)=.ok (t.s,r):=by simp[name,M,A]
        have Z:p.name=(t.s,p.next):=by unfold RS.name;simp[c.code,B,M,A]
        rw[Y]at h |-;simp only at h |-;rw[Z]at n
        have zt:p.next.aJ 0=aJ r 0:=v.1.aJ 0
        have Q:=fun g=>mE.eq_def (g+1) (.named t.at_ t.s d) p.next
        simp only[zt]at Q
        by_cases u:aJ r 0=[91]
        ·rw[ak u]at h |-;have⟨tb,G,_⟩:=eF aC u;have m:=v.1;rw[G]at m
         have m:=v.tr m.next
         simp only[ak u]at Q
         have hF:∀b q,(∀g,KF f<=g->mE g (.expr (d+1)) p.next.next=some (b,q))->∀g,KF f+1<=g->mE (g+1) (.operand d) p=some (one 3 t.at_ t.s [b],q.ba [93]):=fun b q e g j=>by
          exact zef
         exact eZ.gA m (C.expr (d+1) r.tail p.next.next m.1) h (fun b q z e=>⟨_,by have:=hF b q e;rwa[iU z aC]at this⟩) fun b q O w o e=>by erw[w];exact⟨_,_,hF b q e,o.ba aC⟩
        ·rw[ae u]at h |-;simp only[ae u]at Q
         by_cases H:aJ r 0=[40]
         ·rw[ak H]at h |-;have⟨tb,G,_⟩:=eF aC H;have m:=v.1;rw[G]at m
          have m:=v.tr m.next
          simp only[ak H]at Q
          have hF:∀b q,(∀g,KF f<=g->mL g (d+1) p.next.next=some (b,q))->∀g,KF f+1<=g->mE (g+1) (.operand d) p=some (one 4 t.at_ t.s b,q):=fun b q e g j=>by
           exact zef
          exact eZ.gA m (C.args0 (d+1) r.tail p.next.next m.1) h (fun b q z e=>⟨_,hF b q e⟩) fun b q O w o e=>by erw[w];exact⟨_,_,hF b q e,rfl,o.1.self⟩
         ·rw[ae H];simp only[ae H]at Q;refine⟨one 2 t.at_ t.s [],p.next,fun g j=>?_,rfl,v⟩;obtain⟨g,rfl⟩:∃F,g=F+1:=⟨g-1,by omega⟩;rw[n,Q]
  ·rw[rd.args]at h |-;have zt:p.aJ 0=aJ ts 0:=c.aJ 0;have N:=c.ba (s:=[41]) aC;unfold Go.Xp.ba at N
   by_cases u:aJ ts 0=[41]
   ·rw[ak u];rw[ak u]at N;exact⟨E,p.ba [41],fun g j=>by grind[qy,RS.ba],rfl,N⟩
   ·rw[ae u,ae aaP]at h |-;rw[ae u]at N
    by_cases H:aJ ts 0=[44]
    ·have X:Go.Xp.ba p.e [44] ts=.ok ts.tail:=by grind[ba]
     rw[X]at h |-;simp only at h |-;have⟨tb,G,_⟩:=eF aC H;have v:=c;rw[G]at v
     have v:=v.next
     refine eZ.gA v (C.expr d ts.tail p.next v.1) h (fun b q z e=>⟨E++[b],fun g j=>?_⟩) fun b q O w o e=>?_
     ·rw[qy,ak zff,e g aH];exact zcO
     ·erw[w]at h |-;simp only at h |-;rw[<-o.2.2]at h |-
      have⟨t3,q3,h3,R⟩:=C.args d (E++[b]) O q zfg o.1 h;exact⟨t3,q3,fun g j=>by grind[qy],R⟩
    ·have X:Go.Xp.ba p.e [44] ts=.error (7,place p.e ts):=by grind[ba]
     rw[X];exact⟨E,p.ba [41],fun g j=>by grind[qy,RS.ba],N⟩
  ·rw[rd.args]at h |-;have zt:p.aJ 0=aJ ts 0:=c.aJ 0
   by_cases u:aJ ts 0=[41]
   ·rw[ak u];have N:=c.ba (s:=[41]) aC;unfold Go.Xp.ba at N;rw[ak u]at N;exact⟨[],p.ba [41],fun g j=>by grind[mL,RS.ba],rfl,N⟩
   ·rw[ae u,ak rfl]at h |-;simp only at h |-
    refine eZ.gA c.self (C.expr d ts p c) h (fun b q z e=>⟨[b],fun g j=>?_⟩) fun b q O w o e=>?_
    ·rw[mL,ae zff,e g aH];exact zcO
    ·erw[w]at h |-;simp only at h |-;rw[<-o.2.2]at h |-
     have⟨t3,q3,h3,R⟩:=C.args d ([]++[b]) O q zfg o.1 h;exact⟨t3,q3,fun g j=>by grind[mL],R⟩
end Go.Sp
namespace Go.Xp
def aab(e:Int):∀f,(∀j ts,rd e f j ts=.error bO\/rd e (f+1) j ts=rd e f j ts)/\(∀d T ts,rd.args e f d T ts=.error bO\/rd.args e (f+1) d T ts=rd.args e f d T ts):=by
 intro f
 induction f with
 |zero=>exact⟨fun j ts=>.inl (by simp[rd]),fun d T ts=>.inl zfw⟩
 |succ f O =>
  have⟨H,R⟩:=O;refine⟨fun j ts=>?_,fun d T ts=>?_⟩
  ·rw[rd.eq_def e (f+1+1),rd.eq_def e (f+1)]
   cases j with
   |expr d =>
    grind
   |level k d =>
    grind
   |loop k d out =>
    grind
   |operand d =>
    simp only;split
    ·simp
    ·cases ts with
     |nil=>simp
     |cons t r =>
      grind
  grind[rd.args]
def JU{e:Int}{f Z:Nat}{j:uq}{ts:List Tok}(h:rd e f j ts≠.error bO)(hf:f<=Z):rd e Z j ts=rd e f j ts:=by
 obtain⟨k,rfl⟩:=Nat.exists_eq_add_of_le hf;clear hf
 induction k with
 |zero=>rfl
 |succ k O =>
  rcases(aab e (f+k)).1 j ts with o|o
  ·grind
  grind
def Cg{e:Int}{f d:Nat}{ts:List Tok}(h:20*ts.length+12<=f):rd e f (.expr d) ts=expr e d ts:=by
 have o:rd e (20*ts.length+12) (.expr d) ts≠.error bO:=yV (j:=.expr d) trivial (aY _);rw[JU o h];unfold expr nO;exact(JU o aH).symm
def Wb(t:T):Prop:=t.n.ai=3->∃a,t.aw=[a]
def O5(e:Int):∀f j,(∀k d out,j≠.loop k d out)->∀t r,rd e f j []≠.ok (t,r):=by
 intro f
 induction f with
 |zero=>simp[Rd,rd,Er]
 |succ f O =>
  intro j Y t r h;rw[rd.eq_def]at h
  grind
def O4(e:Int):∀f j ts t r,(∀k d out,j=.loop k d out->Wb out)->rd e f j ts=.ok (t,r)->Wb t:=by
 intro f
 induction f with
 |zero=>simp[Wb,Rd,rd,Er]
 |succ f O =>
  intro j ts t r Y h;rw[rd.eq_def]at h
  cases j with
  |expr d =>
   grind
  |level k d =>
   grind
  |loop k d out =>
   cases ts with
   |nil=>grind
   |cons a z =>
    simp only at h;split at h
    ·split at h
     ·cases h
     ·exact O _ _ _ _ (fun N w M u=>by cases u;intro G;exact absurd G (by simp[one,T.n])) h
    grind
  |operand d =>
   simp only at h;split at h
   ·cases h
   ·cases ts with
    |nil=>cases h
    |cons a z =>
     simp only at h;split at h
     ·split at h
      ·split at h
       ·cases h
       ·cases h;intro G;exact zeQ
      grind
     ·split at h
      ·cases h;intro G;exact absurd G (by simp[T.n])
      ·split at h
       ·cases h
       ·split at h
        ·split at h
         ·cases h
         ·split at h
          ·cases h
          ·cases h;exact fun _=>⟨_,rfl⟩
        ·split at h
         ·split at h
          ·cases h
          ·cases h;intro G;exact zeQ
         ·cases h;intro G;exact zeQ
end Go.Xp
namespace Go.Sp
open Go.Xp
def ZQ{d:Nat}{ts:List Tok}{p:RS}(W:On p ts):∃t q,mX d p=some (t,q)/\eZ p q t (expr p.e d ts):=by
 have M:ts.length<=p.l.length:=by rw[<-W.rest,sa];omega
 have m:rd p.e (20*ts.length+12) (.expr d) ts≠.error bO:=yV (j:=.expr d) trivial (aY _);have⟨t,q,o,b⟩:=(je _).expr d ts p W m;rw[Cg (aY _)]at b;exact⟨t,q,o _ (by grind[KF,fe]),b⟩
def F4{d:Nat}{p:RS}(h:p.code≠0):mX d p=some (T.zero,p):=XY h (by simp[fe])
theorem F3{p:RS}(h:p.code≠0){g d:Nat}(hg:2<=g):mS g (.block d) p=some (one 14 p.place [] [],p):=by
 obtain⟨g,rfl⟩:∃Q,g=Q+2:=⟨g-2,by omega⟩;rw[mS,rq h,iU h aC];simp only[mB,h,false_and,if_false];rw[iU h aC]
def Ps{p:RS}(h:p.code≠0){g d:Nat}(hg:1<=g):mS g (.stmt d) p=some (one 12 p.place [] [T.zero],p):=by
 obtain⟨g,rfl⟩:∃Q,g=Q+1:=⟨g-1,by omega⟩;rw[mS,rq h];simp only[my h];rw[ae aC,ae aC,ae aC,ae (fun x=>h x.1),F4 h]
 have j:¬(T.zero.n.ai=3/\T.zero.n.at_=p.place/\p.aJ 0=[61]):=fun x=>absurd x.1 aC
 simp only;rw[ae j,iU h aC]
structure JS'(f:Nat):Prop where
 block:∀d ts p,On p ts->rs p.e f (.block d) ts≠.error bO->∃t q,(∀g,KF f<=g->mS g (.block d) p=some (t,q))/\eZ p q t (rs p.e f (.block d) ts)
 stmt:∀d ts p,On p ts->rs p.e f (.stmt d) ts≠.error bO->∃t q,(∀g,KF f<=g->mS g (.stmt d) p=some (t,q))/\eZ p q t (rs p.e f (.stmt d) ts)
 body:∀d acc ts p,On p ts->rs.body p.e f d acc ts≠.error bO->∃t q,(∀g,KF f<=g->mB g d acc p=some (t,q))/\eZ p (q.ba [125]) t (rs.body p.e f d acc ts)
def Lw{d:Nat}{ts:List Tok}{p:RS}(W:On p ts):(∃t q r,mX d p=some (t,q)/\expr p.e d ts=.ok (t,r)/\cZ p q (.ok r))\/(∃t q x,mX d p=some (t,q)/\expr p.e d ts=.error x/\cZ p q (.error x)):=by
 have⟨t,q,o,b⟩:=ZQ (d:=d) W
 cases i:expr p.e d ts with
 |error x=>rw[i]at b;exact .inr ⟨t,q,x,o,rfl,b⟩
 |ok y =>
  have⟨k,r⟩:=y;rw[i]at b;obtain⟨rfl,b⟩:=b
  grind
def yS{s:ab}{ts:List Tok}{p:RS}(W:On p ts)(G:s≠[]):(∃r,Go.Xp.ba p.e s ts=.ok r/\cZ p (p.ba s) (.ok r))\/(∃x,Go.Xp.ba p.e s ts=.error x/\cZ p (p.ba s) (.error x)):=by
 have h:=W.ba G
 cases i:Go.Xp.ba p.e s ts with
 |ok r=>grind
 |error x=>grind
def U0{ts:List Tok}{p:RS}(W:On p ts):(∃r,Go.Xp.name p.e ts=.ok (p.name.1,r)/\cZ p p.name.2 (.ok r))\/(∃x,Go.Xp.name p.e ts=.error x/\cZ p p.name.2 (.error x)):=by
 rcases W.name with h|h
 ·cases i:Go.Xp.name p.e ts with
  |ok y =>
   have⟨s,r⟩:=y;rw[i]at h;obtain⟨rfl,h⟩:=h
   grind
  |error x=>rw[i]at h;exact .inr ⟨x,rfl,h⟩
 grind
def zS{d:Nat}{ts:List Tok}{p:RS}{b:ab}(W:On p ts)(j:b≠[]):∃t q,mX d p=some (t,q)/\((∃r z,expr p.e d ts=.ok (t,r)/\Go.Xp.ba p.e b r=.ok z/\cZ p (q.ba b) (.ok z))\/(∃r x,expr p.e d ts=.ok (t,r)/\Go.Xp.ba p.e b r=.error x/\cZ p (q.ba b) (.error x))\/(∃x,expr p.e d ts=.error x/\cZ p (q.ba b) (.error x))):=by
 rcases Lw (d:=d) W with⟨t,q,r,o,c,G⟩|⟨t,q,x,o,c,G⟩
 ·refine⟨t,q,o,?_⟩
  rcases yS G.1 j with⟨z,C,i⟩|⟨x,C,i⟩
  ·rw[G.2.2]at C;exact .inl ⟨r,z,c,C,G.tr i⟩
  ·rw[G.2.2]at C;exact .inr (.inl ⟨r,x,c,C,G.tr i⟩)
 ·exact⟨t,q,o,.inr (.inr ⟨x,c,by rw[iU G.err j];exact G⟩)⟩
theorem On.ot{ts:List Tok}{p:RS}(W:On p ts):p.ot=(match ts with|t::_=>decide (t.ai=2)|[]=>false):=by
 have h:=W.at 0
 grind[RS.ot]
section
variable{d:Nat}{ts:List Tok}{p:RS}
def FF{a b:ab}(W:On p ts)(ha:a≠[])(i:b≠[]):∃t q,mX d (p.ba a)=some (t,q)/\((∃r,inner p.e d a b ts=.ok (t,r)/\cZ p (q.ba b) (.ok r))\/∃x,inner p.e d a b ts=.error x/\cZ p (q.ba b) (.error x)):=by
 unfold Go.Xp.inner
 rcases yS W ha with⟨r,o,c⟩|⟨x,o,c⟩
 ·rw[o];have⟨t,q,G,C⟩:=zS (d:=d) (b:=b) c.1 i;rw[c.2.2]at C;refine⟨t,q,G,?_⟩;simp only
  rcases C with⟨r,z,R,O,S⟩|⟨r,x,R,O,S⟩|⟨x,R,S⟩
  ·rw[R];simp only;rw[O];exact .inl ⟨z,rfl,c.tr S⟩
  ·rw[R];simp only;rw[O];exact zbB
  ·rw[R];exact zbB
 ·rw[o];exact⟨T.zero,p.ba a,F4 c.err,.inr ⟨x,rfl,by rw[iU c.err i];exact c⟩⟩
def GH(W:On p ts):∃t q,mX d (p.name.2.ba [61])=some (t,q)/\((∃r,mb p.e d ts=.ok ((p.name.1,t),r)/\cZ p (q.ba [59]) (.ok r))\/∃x,mb p.e d ts=.error x/\cZ p (q.ba [59]) (.error x)):=by
 unfold Go.Xp.mb
 rcases U0 W with⟨r,o,c⟩|⟨x,o,c⟩
 ·rw[o];have⟨t,q,G,C⟩:=FF (d:=d) (a:=[61]) (b:=[59]) c.1 aC aC;rw[c.2.2]at C;refine⟨t,q,G,?_⟩;simp only
  rcases C with⟨r,R,S⟩|⟨x,R,S⟩
  ·rw[R];exact .inl ⟨r,rfl,c.tr S⟩
  ·rw[R];exact zbB
 ·rw[o];refine⟨T.zero,p.name.2,by rw[iU c.err aC];exact F4 c.err,.inr ⟨x,rfl,by rw[iU c.err aC];exact c⟩⟩
end
def js(f:Nat):JS' f:=by
 induction f with
 |zero=>exact⟨fun d z p _ h=>absurd zfF h,fun d z p _ h=>absurd zfF h,fun d S z p _ h=>absurd zfw h⟩
 |succ f C =>
  refine⟨fun d z p w h=>?_,fun d z p w h=>?_,fun d S z p w h=>?_⟩
  ·rw[rs]at h |-
   by_cases hd:d>60
   ·rw[ak hd]at h |-;have hf:=w.fail 9 p.place aC;refine⟨one 14 (p.fail 9 p.place).place [] [],p.fail 9 p.place,fun g j=>?_,by rw[<-w.place];exact hf⟩
    have hdf:p.a6 d=p.fail 9 p.place:=by grind[RS.a6]
    have:=F3 (g:=g) (d:=d) hf.err zfG;obtain⟨g,rfl,j⟩:=up j;rw[mS]at this |-;rw[rq hf.err]at this
    grind
   ·rw[ae hd]at h |-
    have E:p.a6 d=p:=by grind[RS.a6]
    rcases yS w (s:=[123]) aC with⟨r,B,i⟩|⟨x,B,i⟩
    ·rw[B]at h |-;simp only at h |-;rw[<-i.2.2]at h |-
     have M:rs.body (p.ba [123]).e f (d+1) [] r≠.error bO:=fun W=>h (by rw[W])
     have⟨l,q,m,u⟩:=C.body (d+1) [] r (p.ba [123]) i.1 M
     have J:place (p.ba [123]).e z=p.place:=by rw[i.2.2,w.place]
     refine⟨one 14 p.place [] l,q.ba [125],fun g j=>?_,?_⟩
     ·obtain⟨g,rfl,j⟩:=up j
      grind[mS]
     ·cases Y:rs.body (p.ba [123]).e f (d+1) [] r with
      |error x=>rw[Y]at u;exact i.tr (y:=.error x) u
      |ok y=>have⟨l',r'⟩:=y;rw[Y]at u;obtain⟨rfl,u⟩:=u;rw[J];exact⟨rfl,i.tr u⟩
    ·rw[B]at h |-;refine⟨one 14 p.place [] [],p.ba [123],fun g j=>?_,i⟩;obtain⟨g,rfl,j⟩:=up j;rw[mS,E];obtain⟨g,rfl⟩:∃g',g=g'+1:=⟨g-1,by omega⟩;simp only[mB,i.err,false_and,if_false];rw[iU i.err aC]
  ·rw[rs]at h |-
   by_cases hd:d>60
   ·rw[ak hd]at h |-;have hf:=w.fail 9 p.place aC
    have hdf:p.a6 d=p.fail 9 p.place:=by grind[RS.a6]
    refine⟨one 12 (p.fail 9 p.place).place [] [T.zero],p.fail 9 p.place,fun g j=>?_,by rw[<-w.place];exact hf⟩;have:=Ps (g:=g) (d:=d) hf.err zfG;obtain⟨g,rfl,j⟩:=up j;rw[mS]at this |-;rw[rq hf.err]at this
    grind
   ·rw[ae hd]at h |-
    have E:p.a6 d=p:=by grind[RS.a6]
    have zt:p.aJ 0=aJ z 0:=w.aJ 0;have acf:p.aJ 1=aJ z 1:=w.aJ 1;have J:=w.place;simp only at h |-
    by_cases hv:aJ z 0=l7
    ·rw[ak hv];have⟨tv,Q,_⟩:=eF aC hv;have o:=w;rw[Q]at o
     have o:=o.next
     rw[show p.e=p.next.e from rfl]
     rcases GH (d:=d+1) o.1 with⟨t,q,B,⟨r,i,m⟩|⟨x,i,m⟩⟩
     ·rw[i];refine⟨one 13 p.place p.next.name.1 [t],q.ba [59],fun g j=>?_,by rw[J];rfl,o.tr m⟩;obtain⟨g,rfl,j⟩:=up j;rw[mS,E]
      grind
     ·rw[i];refine⟨one 13 p.place p.next.name.1 [t],q.ba [59],fun g j=>?_,o.tr (y:=.error x) m⟩;obtain⟨g,rfl,j⟩:=up j;rw[mS,E]
      grind
    rw[ae hv]at h |-
    by_cases X:aJ z 0=gy\/aJ z 0=gP
    ·rw[ak X]at h |-
     obtain⟨tv,Q,hk3,hts⟩:∃t,z=t::z.tail/\t.ai=3/\t.s=aJ z 0:=by
      rcases X with X|X
      ·have⟨t,B,i,m⟩:=eF aC X;grind
      ·have⟨t,B,i,m⟩:=eF aC X;grind
     have o:=w;rw[Q]at o
     have o:=o.next
     have NC:p.ck=if aJ z 0=gy then 9 else 10:=by grind[RS.ck]
     have R:∀(t:T)(q:RS),(∀g,KF f<=g->mS (g+1) (.cond p.place d) p=some (t,q))->∀g,KF (f+1)<=g->mS g (.stmt d) p=some (t,q):=by
      intro t q hk g j;obtain⟨g,rfl,j⟩:=up j;rw[mS,E];rw[ae zff,ak zff];obtain⟨g,rfl⟩:∃g',g=g'+1:=⟨g-1,by omega⟩
      grind
     rcases FF (d:=d+1) (a:=[40]) (b:=[41]) o.1 aC aC with⟨c,q,B,⟨r,i,m⟩|⟨x,i,m⟩⟩
     ·rw[show p.next.e=p.e from rfl]at i;rw[i]at h |-;simp only at h |-;have m:=o.tr m
      have M:rs p.e f (.block (d+1)) r≠.error bO:=fun W=>h (by rw[W])
      rw[<-m.2.2]at M;have⟨b,q2,u,A⟩:=C.block (d+1) r (q.ba [41]) m.1 M;rw[m.2.2]at A
      cases Y:rs p.e f (.block (d+1)) r with
      |error x =>
       rw[Y]at A;refine⟨one p.ck p.place [] [c,b],q2,R _ _ fun g j=>?_,m.tr (y:=.error x) A⟩;rw[mS,B];simp only;rw[u g j];simp only;rw[ae (by rw[my (cZ.err A)];simp[RS.ck,ab,iH])]
      |ok y =>
       have⟨b',r2⟩:=y;rw[Y]at A h;obtain⟨rfl,A⟩:=A;simp only at h |-;have A:=m.tr A;have Fv:q2.aJ 0=aJ r2 0:=A.1.aJ 0
       by_cases hi:aJ z 0=gy
       ·rw[ak hi]at h NC |-
        by_cases xn:aJ r2 0=iH
        ·rw[ak xn]at h |-;have⟨te,NU,_⟩:=eF aC xn;have F:=A.1;rw[NU]at F
         have F:=A.tr F.next
         have M:rs p.e f (.block (d+1)) r2.tail≠.error bO:=fun W=>h (by rw[W])
         rw[<-F.2.2]at M
         have⟨b2,q3,h6,Z⟩:=C.block (d+1) r2.tail q2.next F.1 M
         rw[F.2.2]at Z;refine⟨one p.ck p.place [] [c,b,b2],q3,R _ _ fun g j=>?_,?_⟩
         ·grind[mS,RS.place,one,RS.ck]
         ·cases xN:rs p.e f (.block (d+1)) r2.tail with
          |error x=>rw[xN]at Z;exact F.tr (y:=.error x) Z
          |ok y=>have⟨b3,r3⟩:=y;rw[xN]at Z;obtain⟨rfl,Z⟩:=Z;exact⟨by grind,F.tr Z⟩
        ·rw[ae xn];refine⟨one p.ck p.place [] [c,b],q2,R _ _ fun g j=>?_,by grind,A⟩
         grind[mS,RS.place,one,RS.ck]
       ·rw[ae hi]at NC |-;refine⟨one p.ck p.place [] [c,b],q2,R _ _ fun g j=>?_,by grind,A⟩
        grind[mS,RS.place,one,RS.ck]
     ·rw[show p.next.e=p.e from rfl]at i;rw[i]at h |-;have m:=o.tr (y:=.error x) m;refine⟨one p.ck p.place [] [c,one 14 (q.ba [41]).place [] []],q.ba [41],R _ _ fun g j=>?_,m⟩;rw[mS,B];simp only;rw[F3 m.err zfG];simp only;rw[ae (by rw[my m.err];simp[RS.ck,ab,iH])]
    rw[ae X]at h |-
    have hcp:¬(p.aJ 0=gy\/p.aJ 0=gP):=by grind
    by_cases hr:aJ z 0=gW
    ·rw[ak hr];have⟨tv,Q,_⟩:=eF aC hr;have o:=w;rw[Q]at o
     have o:=o.next
     have⟨t,q,B,i⟩:=zS (d:=d+1) (b:=[59]) o.1 aC;rw[show p.next.e=p.e from rfl]at i;refine⟨one 11 p.place [] [t],q.ba [59],fun g j=>?_,?_⟩
     ·obtain⟨g,rfl,j⟩:=up j
      exact zd9
     ·rcases i with⟨r,r',i,m,u⟩|⟨r,x,i,m,u⟩|⟨x,i,u⟩
      ·rw[i];simp only;rw[m];exact⟨by rw[J],o.tr u⟩
      ·rw[i];simp only;rw[m];exact zeN
      ·rw[i];exact zeN
    rw[ae hr]at h |-
    have hrp:¬p.aJ 0=gW:=by grind
    have hvp:¬p.aJ 0=l7:=by grind
    have Ji:=w.ot
    cases z with
    |nil =>
     have O:¬(p.code=0/\p.ot=true/\p.aJ 1=[61]):=fun hx=>by grind
     rcases Lw (d:=d+1) w with⟨t,q,r,B,i,m⟩|⟨t,q,x,B,i,m⟩
     ·exact zeX
     ·have G:¬(t.n.ai=3/\t.n.at_=p.place/\q.aJ 0=[61]):=by rw[my m.err];simp
      refine⟨one 12 p.place [] [t],q.ba [59],fun g j=>?_,by unfold simple;rw[i,iU m.err aC];exact m⟩;obtain⟨g,rfl,j⟩:=up j
      exact zd9
    |cons a r0 =>
     simp only[simple]at h |-;simp only at Ji
     by_cases N:a.ai=2/\aJ (a::r0) 1=[61]
     ·rw[ak N];have O:p.code=0/\p.ot=true/\p.aJ 1=[61]:=⟨w.code,by grind,by grind⟩
      rcases GH (d:=d+1) w with⟨t,q,B,⟨r,i,m⟩|⟨x,i,m⟩⟩
      ·rw[i];refine⟨one 7 p.place p.name.1 [t],q.ba [59],fun g j=>?_,by rw[J];rfl,m⟩;obtain⟨g,rfl,j⟩:=up j;rw[mS,E]
       grind
      ·rw[i];refine⟨one 7 p.place p.name.1 [t],q.ba [59],fun g j=>?_,m⟩;obtain⟨g,rfl,j⟩:=up j;rw[mS,E]
       grind
     ·rw[ae N]
      have O:¬(p.code=0/\p.ot=true/\p.aJ 1=[61]):=fun hx=>N ⟨by grind,by grind⟩
      have aa4:p.place=a.at_:=J
      rcases Lw (d:=d+1) w with⟨t,q,r,B,i,m⟩|⟨t,q,x,B,i,m⟩
      ·rw[i];simp only;have Fv:q.aJ 0=aJ r 0:=m.1.aJ 0
       by_cases H:t.n.ai=3/\t.n.at_=a.at_/\aJ r 0=[61]
       ·rw[ak H]
        have G:t.n.ai=3/\t.n.at_=p.place/\q.aJ 0=[61]:=by grind
        have⟨te,NU,_⟩:=eF aC H.2.2;have o:=m.1;rw[NU]at o
        have o:=m.tr o.next
        obtain⟨ix,hix⟩:=O4 _ _ _ _ _ _ (fun k d out hj=>by cases hj) i H.1
        have Jf:∀ts',Go.Xp.inner p.e (d+1) [61] [59] ts'=Go.Xp.inner p.e (d+1) [61] [59] ts':=fun _=>rfl
        have Td:Go.Xp.ba p.e [61] r=.ok r.tail:=by grind[ba]
        have⟨v,q2,u,A⟩:=zS (d:=d+1) (b:=[59]) o.1 aC;rw[o.2.2]at A;refine⟨one 8 p.place t.n.s [ix,v],q2.ba [59],fun g j=>?_,?_⟩
        ·obtain⟨g,rfl,j⟩:=up j;rw[mS,E]
         grind
        ·unfold Go.Xp.inner;rw[Td];simp only
         rcases A with⟨r2,r',i,m,u⟩|⟨r2,x,i,m,u⟩|⟨x,i,u⟩
         ·rw[i];simp only;rw[m];exact⟨by grind,o.tr u⟩
         ·rw[i];simp only;rw[m];exact zeN
         ·rw[i];exact zeN
       ·rw[ae H]
        have G:¬(t.n.ai=3/\t.n.at_=p.place/\q.aJ 0=[61]):=by grind
        refine⟨one 12 p.place [] [t],q.ba [59],fun g j=>?_,?_⟩
        ·obtain⟨g,rfl,j⟩:=up j
         exact zd9
        ·rcases yS m.1 (s:=[59]) aC with⟨r',u,A⟩|⟨x,u,A⟩
         ·rw[m.2.2]at u;rw[u];exact⟨by rw[aa4],m.tr A⟩
         ·rw[m.2.2]at u;rw[u];exact m.tr (y:=.error x) A
      ·rw[i]
       have G:¬(t.n.ai=3/\t.n.at_=p.place/\q.aJ 0=[61]):=by rw[my m.err];simp
       refine⟨one 12 p.place [] [t],q.ba [59],fun g j=>?_,by rw[iU m.err aC];exact m⟩;obtain⟨g,rfl,j⟩:=up j
       exact zd9
  ·rw[rs.body]at h |-;have zt:p.aJ 0=aJ z 0:=w.aJ 0
   by_cases M:aJ z 0=[125]
   ·rw[ak M];have hm:=w.ba (s:=[125]) aC;unfold Go.Xp.ba at hm;rw[ak M]at hm;refine⟨S,p,fun g j=>?_,rfl,hm⟩;obtain⟨g,rfl,j⟩:=up j
    grind[mB]
   ·rw[ae M]at h |-
    have hs:rs p.e f (.stmt d) z≠.error bO:=fun W=>h (by rw[W])
    have⟨a,q,B,i⟩:=C.stmt d z p w hs;have X:p.code=0/\¬p.aJ 0=[125]:=⟨w.code,by grind⟩
    cases Y:rs p.e f (.stmt d) z with
    |error x =>
     rw[Y]at i h;refine⟨S++[a],q,fun g j=>?_,by rw[iU (cZ.err i) aC];exact i⟩;obtain⟨g,rfl,j⟩:=up j;rw[mB,ak X,B g aH];simp only;obtain⟨g,rfl⟩:∃g',g=g'+1:=⟨g-1,by omega⟩;rw[mB,ae (fun W=>cZ.err i W.1)]
    |ok y =>
     have⟨a',r⟩:=y;rw[Y]at i h;obtain⟨rfl,i⟩:=i;simp only at h |-;rw[<-i.2.2]at h |-;have⟨l,q3,m,u⟩:=C.body d (S++[a]) r q i.1 h;refine⟨l,q3,fun g j=>?_,eZ.tr i u⟩;obtain⟨g,rfl,j⟩:=up j
     grind[mB]
end Go.Sp
namespace Go.Im
open Go.Xp Go.Sp
def tok(p:RS)(k:Nat):Tok:=match p.l[p.i+k]? with|some t=>t|none=>⟨0,0,[],p.e⟩
def is(p:RS)(k:Nat)(s:ab):Bool:=(tok p k).ai==3&&(tok p k).s==s
def lN(p:RS):RS:=p.fail 7 (tok p 0).at_
def want(p:RS)(s:ab):RS:=if p.code=0 then(if is p 0 s=true then p.next else lN p)else p
def cv(p:RS):RS:=if p.code=0 then(if(tok p 0).ai=2 then(if(tok p 0).s.length>12 then p.fail 8 (tok p 0).at_ else p.next)else lN p)else p
def cV(p:RS)(d:Nat):RS:=if d>60 then p.fail 9 (tok p 0).at_ else p
mutual
def iE:Nat->uq->RS->Option (T × RS)
 |0,_,_=>none
 |f+1,.expr d,p=>if(cV p d).code=0 then iE f (.level 0 (d+1)) (cV p d)else some (T.zero,cV p d)
 |f+1,.level k d,p =>
  if k=9 then iE f (.operand d) p
  else match iE f (.level (k+1) d) p with
   |none=>none
   |some (out,p)=>iE f (.loop k d out) p
 |f+1,.loop k d out,p =>
  if p.code=0/\(tok p 0).ai=3/\(levels.getD k []).contains (tok p 0).s=true then
   match iE f (.level (k+1) d) p.next with
   |none=>none
   |some (b,q)=>iE f (.loop k d (one 6 (tok p 0).at_ (tok p 0).s [out,b])) q
  else some (out,p)
 |f+1,.operand d,p =>
  if(cV p d).code=0 then
   if is p 0 [45]=true\/is p 0 [33]=true\/is p 0 [126]=true then match iE f (.operand (d+1)) p.next with
    |none=>none
    |some (a,q)=>some (one 5 (tok p 0).at_ (tok p 0).s [a],q)
   else if(tok p 0).ai=1 then some (.mk ⟨1,(tok p 0).at_,(tok p 0).n,[],[]⟩ [],p.next)
   else if is p 0 [40]=true then match iE f (.expr (d+1)) p.next with
    |none=>none
    |some (a,q)=>some (a,want q [41])
   else if(cv p).code=0 then
    if is (cv p) 0 [91]=true then match iE f (.expr (d+1)) (cv p).next with
     |none=>none
     |some (a,q)=>some (one 3 (tok p 0).at_ (tok p 0).s [a],want q [93])
    else if is (cv p) 0 [40]=true then match iA f (d+1) [] (cv p).next with
     |none=>none
     |some (l,q)=>some (one 4 (tok p 0).at_ (tok p 0).s l,q)
    else some (one 2 (tok p 0).at_ (tok p 0).s [],cv p)
   else some (one 2 (tok p 0).at_ (tok p 0).s [],cv p)
  else some (T.zero,cV p d)
def iA:Nat->Nat->List T->RS->Option (List T × RS)
 |0,_,_,_=>none
 |f+1,d,W,p =>
  if p.code=0/\is p 0 [41]=false then match iE f (.expr d) (if W.length=0 then p else want p [44])with
   |none=>none
   |some (a,q)=>iA f d (W++[a]) q
  else some (W,want p [41])
end
section
variable{p q:RS}{ts r:List Tok}
theorem On.tok(h:On p ts)(k:Nat):tok p k=(match ts[k]? with|some t=>t|none=>⟨0,0,[],p.e⟩):=by unfold Im.tok;rw[h.at]
def On.uh(h:On p ts):(Im.tok p 0).at_=Go.Xp.place p.e ts:=by
 rw[On.tok h]
 cases ts with
 |nil=>rfl
 |cons t r=>rfl
theorem On.is(h:On p ts)(k:Nat){s:ab}(G:s≠[]):is p k s=decide (aJ ts k=s):=by
 unfold Im.is
 have e:aJ ts k=(if(Im.tok p k).ai=3 then(Im.tok p k).s else[]):=by
  unfold Go.Xp.aJ;rw[On.tok h]
  cases N:ts[k]? with
  |none=>simp
  |some t=>rfl
 grind
theorem iy(h:p.code≠0)(s:ab):want p s=p:=by grind[want]
theorem AK(h:p.code≠0)(d:Nat):cV p d=p:=by grind[tO,cV]
theorem OI(h:p.code≠0):cv p=p:=by grind[cv]
theorem On.lN(h:On p ts):cZ p (lN p) (.error (7,place p.e ts)):=by
 unfold Im.lN;rw[On.uh h];exact h.fail 7 _ aC
theorem On.want(h:On p ts){s:ab}(G:s≠[]):cZ p (want p s) (Go.Xp.ba p.e s ts):=by
 unfold Im.want Go.Xp.ba;rw[ak h.code,On.is h 0 G]
 by_cases o:aJ ts 0=s
 ·rw[ak zff,ak o];have⟨t,M,_⟩:=eF G o;rw[M]at h
  exact h.next
 simp_all[ae,On.lN]
theorem nr(h:On p ts){s:ab}(G:s≠[]):(∃r,Go.Xp.ba p.e s ts=.ok r/\cZ p (Im.want p s) (.ok r))\/(∃x,Go.Xp.ba p.e s ts=.error x/\cZ p (Im.want p s) (.error x)):=by
 have h:=On.want h G
 grind[Go.Xp.ba]
def tU(h:On p ts):(∃r,Go.Xp.name p.e ts=.ok ((Im.tok p 0).s,r)/\cZ p (Im.cv p) (.ok r))\/(∃x,Go.Xp.name p.e ts=.error x/\cZ p (Im.cv p) (.error x)):=by
 have N:=On.tok h 0;have l:=On.lN h;unfold Im.cv;rw[ak h.code]
 cases ts with
 |nil =>
  simp only[List.getElem?_nil]at N;rw[N];exact .inr ⟨_,rfl,by rw[ae zfg];exact l⟩
 |cons t r =>
  simp only[getElem?_cons_zero]at N;rw[N];simp only[Go.Xp.name]
  by_cases b:t.ai=2
  ·rw[ak b,ak b]
   by_cases M:t.s.length>12
   ·rw[ak M,ak M];exact .inr ⟨_,rfl,h.fail 8 _ aC⟩
   ·rw[ae M,ae M];exact .inl ⟨r,rfl,h.next⟩
  ·rw[ae b,ae b];exact .inr ⟨_,rfl,l⟩
def FB(h:p.code≠0){g d:Nat}(hg:1<=g):iE g (.expr d) p=some (T.zero,p):=by
 obtain⟨g,rfl⟩:∃Q,g=Q+1:=⟨g-1,by omega⟩;rw[iE,AK h,ae h]
theorem NZ(h:p.code≠0){g k d:Nat}{out:T}(hg:1<=g):iE g (.loop k d out) p=some (out,p):=by
 obtain⟨g,rfl⟩:∃Q,g=Q+1:=⟨g-1,by omega⟩
 grind[iE]
end
structure IE(f:Nat):Prop where
 expr:∀d ts p,On p ts->rd p.e f (.expr d) ts≠.error bO->∃t q,(∀g,f+2<=g->iE g (.expr d) p=some (t,q))/\eZ p q t (rd p.e f (.expr d) ts)
 level:∀k d ts p,k<=9->On p ts->rd p.e f (.level k d) ts≠.error bO->∃t q,(∀g,f+2<=g->iE g (.level k d) p=some (t,q))/\eZ p q t (rd p.e f (.level k d) ts)
 loop:∀k d out ts p,k<9->On p ts->rd p.e f (.loop k d out) ts≠.error bO->∃t q,(∀g,f+2<=g->iE g (.loop k d out) p=some (t,q))/\eZ p q t (rd p.e f (.loop k d out) ts)
 operand:∀d ts p,On p ts->rd p.e f (.operand d) ts≠.error bO->∃t q,(∀g,f+2<=g->iE g (.operand d) p=some (t,q))/\eZ p q t (rd p.e f (.operand d) ts)
 args:∀d acc ts p,On p ts->rd.args p.e f d acc ts≠.error bO->∃t q,(∀g,f+2<=g->iA g d acc p=some (t,q))/\eZ p q t (rd.args p.e f d acc ts)
def PR{R:Type}{p q:RS}{r:List Tok}{s:ab}{t:R}(h:cZ p q (.ok r))(G:s≠[]):eZ q (want q s) t (match Go.Xp.ba p.e s r with|.error x=>.error x|.ok r=>.ok (t,r)):=by
 have j:=On.want h.1 G;rw[h.2.2]at j
 cases T:Go.Xp.ba p.e s r with
 |error x=>rw[T]at j;exact j
 |ok S=>rw[T]at j;exact⟨rfl,j⟩
def ie(f:Nat):IE f:=by
 induction f with
 |zero =>
  refine⟨fun d ts p _ h=>absurd ?_ h,fun k d ts p _ _ h=>absurd ?_ h,fun k d out ts p _ _ h=>absurd ?_ h,fun d ts p _ h=>absurd ?_ h,fun d m ts p _ h=>absurd ?_ h⟩<;>simp[rd,rd.args]
 |succ f C =>
  have F:f+2<f+1+2:=by omega
  refine⟨fun d ts p i h=>yl F ?_,fun k d ts p hk i h=>yl F ?_,fun k d out ts p hk i h=>yl F ?_,fun d ts p i h=>yl F ?_,fun d m ts p i h=>yl F ?_⟩
  ·rw[rd]at h |-
   by_cases hd:d>60
   ·rw[ak hd];have E:=i.fail 9 (tok p 0).at_ aC
    have A:cV p d=p.fail 9 (tok p 0).at_:=by grind[cV]
    exact zdL
   ·rw[ae hd]at h |-;have⟨t,q,S,h2⟩:=C.level 0 (d+1) ts p aH i h;exact⟨t,q,fun g c=>by grind[iE,cV,i.code],h2⟩
  ·rw[rd]at h |-
   by_cases h9:k=9
   ·rw[ak h9]at h |-;have⟨t,q,S,h2⟩:=C.operand d ts p i h;exact⟨t,q,fun g c=>by grind[iE],h2⟩
   ·rw[ae h9]at h |-
    refine eZ.gA i.self (C.level (k+1) d ts p aH i) h (fun b q B e=>⟨b,fun g c=>?_⟩) fun b q r z v e=>?_
    ·rw[iE,ae h9,e g c];exact NZ B aH
    ·erw[z]at h |-;simp only at h |-;rw[<-v.2.2]at h |-
     have⟨t,q',W,Z⟩:=C.loop k d b r q aH v.1 h;exact⟨t,q',fun g c=>by grind[iE],Z⟩
  ·cases ts with
   |nil =>
    rw[rd];refine⟨out,p,fun g c=>?_,rfl,i.self⟩;rw[iE,ae]
    grind[On.tok]
   |cons t r =>
    rw[rd]at h |-
    have G:tok p 0=t:=by grind[On.tok]
    by_cases M:t.ai=3/\t.s∈levels.getD k []
    ·rw[ak M]at h |-
     have n:p.code=0/\(tok p 0).ai=3/\(levels.getD k []).contains (tok p 0).s=true:=by rw[G];exact⟨i.code,M.1,by grind⟩
     refine eZ.gA i.next (C.level (k+1) d r p.next aH i.next.1) h (fun b q B e=>⟨one 6 t.at_ t.s [out,b],fun g c=>?_⟩) fun b q H z v e=>?_
     ·rw[iE,ak n,e g c,G];exact NZ B aH
     ·erw[z]at h |-;simp only at h |-;rw[<-v.2.2]at h |-
      have⟨t3,q3,W,Z⟩:=C.loop k d (one 6 t.at_ t.s [out,b]) H q hk v.1 h;exact⟨t3,q3,fun g c=>by grind[iE],Z⟩
    ·rw[ae M];exact⟨out,p,fun g c=>by grind[iE],rfl,i.self⟩
  ·rw[rd.eq_def]at h |-;simp only at h |-
   by_cases hd:d>60
   ·rw[ak hd];have E:=i.fail 9 (tok p 0).at_ aC
    have A:cV p d=p.fail 9 (tok p 0).at_:=by grind[cV]
    exact zdL
   ·rw[ae hd]at h |-
    have A:cV p d=p:=by grind[cV]
    have hi:∀s:ab,s≠[]->is p 0 s=decide (aJ ts 0=s):=fun s hs=>On.is i 0 hs
    cases ts with
    |nil =>
     have G:tok p 0=⟨0,0,[],p.e⟩:=by grind[On.tok]
     have o:∀s:ab,s≠[]->is p 0 s=false:=fun s hs=>by grind[is]
     have Q:cv p=p.fail 7 p.e:=by unfold cv;rw[ak i.code,G,ae zfg];grind[lN]
     have E:=i.fail 7 p.e aC;refine⟨one 2 p.e [] [],p.fail 7 p.e,fun g c=>?_,E⟩;rw[iE,A,ak i.code,o _ aC,o _ aC,o _ aC,ae aC,ae zff,o _ aC,ae aC,Q,ae E.err,G]
    |cons t r =>
     simp only at h |-
     have G:tok p 0=t:=by grind[On.tok]
     have N:=i.next
     have j:=fun g=>iE.eq_def (g+1) (.operand d) p
     simp only[A,i.code,G,if_true]at j
     by_cases W:t.ai=3
     ·rw[ak W]at h |-
      have zt:aJ (t::r) 0=t.s:=by simp only[aJ,getElem?_cons_zero,dS,W,if_true]
      simp only[show ¬t.ai=1 by omega,if_false,hi _ (by decide:([45]:ab)≠[]),hi _ (by decide:([33]:ab)≠[]),hi _ (by decide:([126]:ab)≠[]),hi _ zfC,zt,decide_eq_true_eq]at j
      by_cases hu:t.s=[45]\/t.s=[33]\/t.s=[126]
      ·rw[ak hu]at h |-;simp only[ak hu]at j
       exact eZ.gA N (C.operand (d+1) r p.next N.1) h (fun b q B e=>⟨_,fun g c=>by rw[j,e g c]⟩) fun b q H z v e=>by erw[z];exact⟨_,_,fun g c=>by rw[j,e g c],rfl,v.1.self⟩
      ·rw[ae hu]at h |-;simp only[ae hu]at j
       by_cases w:t.s=[40]
       ·rw[ak w]at h |-;simp only[ak w]at j
        exact eZ.gA N (C.expr (d+1) r p.next N.1) h (fun b q B e=>⟨b,fun g c=>by rw[j,e g c];simp only;rw[iy B]⟩) fun b q H z v e=>by erw[z];exact⟨_,_,fun g c=>by rw[j,e g c],PR v aC⟩
       ·rw[ae w]at h |-
        have Q:cv p=p.fail 7 t.at_:=by unfold cv;rw[ak i.code,G,ae aH];grind[lN]
        have E:=i.fail 7 t.at_ aC;simp only[ae w,Q,ae E.err]at j;exact⟨_,_,fun g c=>j g,E⟩
     ·rw[ae W]at h |-
      have o:∀s:ab,s≠[]->is p 0 s=false:=fun s hs=>by grind[is]
      simp only[o _ (by decide:([45]:ab)≠[]),o _ (by decide:([33]:ab)≠[]),o _ (by decide:([126]:ab)≠[]),o _ zfC,Bool.false_eq_true,or_self,if_false]at j
      by_cases S:t.ai=1
      ·rw[ak S];simp only[ak S]at j;exact⟨_,p.next,fun g c=>j g,rfl,N⟩
      ·rw[ae S]at h |-;simp only[ae S]at j
       rcases tU i with⟨H,X,u⟩|⟨x,X,u⟩
       ·rw[X]at h |-;simp only at h |-;simp only[u.1.code,if_true,On.is u.1 0 (by decide:([91]:ab)≠[]),On.is u.1 0 zfC,decide_eq_true_eq]at j
        by_cases w:aJ H 0=[91]
        ·rw[ak w]at h |-;have⟨tb,R,_⟩:=eF aC w;have l:=u.1;rw[R]at l
         have l:=u.tr l.next
         rw[G]at h |-;simp only[ak w]at j
         have O:=C.expr (d+1) H.tail (cv p).next l.1
         rw[l.2.2]at O
         exact eZ.gA l O h (fun b q B e=>⟨one 3 t.at_ t.s [b],fun g c=>by rw[j,e g c];simp only;rw[iy B]⟩) fun b q r2 z v e=>by erw[z];exact⟨_,_,fun g c=>by rw[j,e g c],PR v aC⟩
        ·rw[ae w]at h |-;simp only[ae w]at j
         by_cases M:aJ H 0=[40]
         ·rw[ak M]at h |-;have⟨tb,R,_⟩:=eF aC M;have l:=u.1;rw[R]at l
          have l:=u.tr l.next
          rw[G]at h |-;simp only[ak M]at j
          have O:=C.args (d+1) [] H.tail (cv p).next l.1
          rw[l.2.2]at O
          exact eZ.gA l O h (fun b q B e=>⟨one 4 t.at_ t.s b,fun g c=>by rw[j,e g c]⟩) fun b q r2 z v e=>by erw[z];exact⟨_,_,fun g c=>by rw[j,e g c],rfl,v.1.self⟩
         ·rw[ae M,G];simp only[ae M]at j;exact⟨_,_,fun g c=>j g,rfl,u⟩
       ·rw[X];simp only[ae u.err]at j;exact⟨_,_,fun g c=>j g,u⟩
  ·rw[rd.args]at h |-;have hi:is p 0 [41]=decide (aJ ts 0=[41]):=On.is i 0 aC
   by_cases w:aJ ts 0=[41]
   ·rw[ak w];have hm:=On.want i (s:=[41]) aC;unfold Go.Xp.ba at hm;rw[ak w]at hm;exact⟨m,want p [41],fun g c=>by grind[iA,want],rfl,hm⟩
   ·rw[ae w]at h |-;have n:p.code=0/\is p 0 [41]=false:=⟨i.code,by grind⟩;have key:∀(p':RS)(J:List Tok),cZ p p' (.ok J)->(if m.length=0 then p else want p [44])=p'->(match rd p.e f (.expr d) J with|.error x=>.error x|.ok (a,ts)=>rd.args p.e f d (m++[a]) ts:Rd (List T))≠.error bO ->
      ∃t q,(∀g,f+2<=g->iA (g+1) d m p=some (t,q))/\eZ p q t (match rd p.e f (.expr d) J with|.error x=>.error x|.ok (a,ts)=>rd.args p.e f d (m++[a]) ts):=by
     intro p' J N S7 h;have O:=C.expr d J p' N.1;rw[N.2.2]at O
     refine eZ.gA N O h (fun b q B e=>⟨m++[b],fun g c=>?_⟩) fun b q H z v e=>?_
     ·rw[iA,ak n,S7,e g c];simp only;obtain⟨g,rfl⟩:∃g',g=g'+1:=⟨g-1,by omega⟩;rw[iA,ae (fun h0=>B h0.1),iy B]
     ·rw[z]at h |-;simp only at h |-;rw[<-v.2.2]at h |-;have⟨t3,q3,W,Z⟩:=C.args d (m++[b]) H q v.1 h;exact⟨t3,q3,fun g c=>by grind[iA],Z⟩
    cases m with
    |nil =>
     rw[ak rfl]at h |-;exact key p ts i.self rfl h
    |cons a0 Y =>
     rw[ae zfg]at h |-
     rcases nr i (s:=[44]) aC with⟨H,X,u⟩|⟨x,X,u⟩
     ·grind
     ·rw[X];refine⟨a0::Y++[T.zero],want p [44],fun g c=>?_,u⟩;rw[iA,ak n,ae zfg,FB u.err aH];simp only;obtain⟨g,rfl⟩:∃g',g=g'+1:=⟨g-1,by omega⟩;rw[iA,ae (fun h0=>u.err h0.1),iy u.err]
end Go.Im
namespace Go.Xp
abbrev ur(ts:List Tok):Prop:=ts.Pairwise fun a b=>a.at_<b.at_
section
variable{e:Int}{s:ab}{ts r:List Tok}
theorem w4(G:s≠[])(h:ba e s ts=.ok r):∃u,ts=u::r/\u.ai=3/\u.s=s:=by
 have⟨o,b⟩:=Cy h
 simp_all[Go.Sp.eF]
theorem F8(h:name e ts=.ok (s,r)):∃u,ts=u::r/\u.ai=2/\u.s=s/\s.length<=12:=by
 cases ts with
 |nil=>cases h
 |cons t ts =>
  grind[name]
end
def ue{s:ab}{ts:List Tok}(G:s≠[])(h:aJ ts 0=s):∃u,ts=u::ts.tail/\u.ai=3/\u.s=s:=Go.Sp.eF G h
def KL(ts r:List Tok)(t:T):Prop:=∃a M,ts=a::(M++r)/\(ur ts->a.at_<=t.n.at_/\(t.n.ai=3->t.n.at_=a.at_->a.ai=2/\∃u w,a::M=u++[w]/\w.s=[93]))
def AB(ts r:List Tok)(out t:T):Prop:=(t=out/\r=ts)\/(t.n.ai=6/\∃M,ts=M++r/\∃u∈ts,t.n.at_=u.at_)
def Vm(e:Int):∀f,(∀j ts t r,(∀k d out,j≠.loop k d out)->rd e f j ts=.ok (t,r)->KL ts r t)/\(∀k d out ts t r,rd e f (.loop k d out) ts=.ok (t,r)->AB ts r out t)/\(∀d v ts l r,rd.args e f d v ts=.ok (l,r)->∃c,ts=c++r/\c≠[]):=by
 intro f
 induction f with
 |zero=>exact⟨fun j ts t r _ h=>by simp[rd]at h,fun k d out ts t r h=>by simp[rd]at h,fun d v ts l r h=>by simp[rd.args]at h⟩
 |succ f ih =>
  have⟨B,Q,i3⟩:=ih;refine⟨fun j ts t r hj h=>?_,fun k d out ts t r h=>?_,fun d v ts l r h=>?_⟩
  ·rw[rd.eq_def]at h
   cases j with
   |expr d =>
    grind
   |level k d =>
    simp only at h;split at h
    ·grind
    ·split at h
     ·cases h
     ·rename_i out H i;have J:=B _ _ _ _ (fun k d out h=>by cases h) i;have W:=Q _ _ _ _ _ _ h
      rcases W with⟨rfl,rfl⟩|⟨M,o,rfl,u,F,C⟩
      ·exact J
      ·obtain⟨a,c,rfl,N⟩:=J;refine⟨a,c++o,by simp,fun A=>⟨?_,fun h6=>by omega⟩⟩
       simp_all[ur,List.pairwise_cons,Int.le_of_lt,List.mem_append_right]
   |loop k d out=>grind
   |operand d =>
    simp only at h;split at h
    ·cases h
    ·cases ts with
     |nil=>cases h
     |cons a R =>
      simp only at h;split at h
      ·rename_i M;split at h
       ·split at h
        ·cases h
        ·rename_i b G i;cases h;obtain⟨m,c,rfl,_⟩:=B _ _ _ _ (fun k d out h=>by cases h) i;exact⟨a,m::c,by simp,fun _=>⟨by simp[one,T.n],fun h=>by simp[one,T.n]at h⟩⟩
       ·split at h
        ·split at h
         ·cases h
         ·rename_i b G i;split at h
          ·cases h
          ·rename_i S E;cases h;obtain⟨m,c,rfl,N⟩:=B _ _ _ _ (fun k d out h=>by cases h) i;obtain⟨w,rfl,_,_⟩:=w4 aC E;refine⟨a,m::(c++[w]),by simp,fun A=>?_⟩
           grind[List.pairwise_cons]
        ·cases h
      ·split at h
       ·cases h;simp[Int.le_refl,T.n,KL,Tok.at_,Tok.n]
       ·split at h
        ·cases h
        ·rename_i s G Y;have⟨u,F,X,_⟩:=F8 Y;cases F;split at h
         ·rename_i A;have⟨w,O,_,_⟩:=ue aC A;split at h
          ·cases h
          ·rename_i b S i;split at h
           ·cases h
           ·rename_i r4 E;cases h;obtain⟨m,c,C,N⟩:=B _ _ _ _ (fun k d out h=>by cases h) i;obtain⟨z,rfl,_,hz⟩:=w4 aC E;refine⟨a,w::m::(c++[z]),by grind,fun _=>⟨Int.le_refl _,fun _ _=>⟨X,a::w::m::c,z,by simp,hz⟩⟩⟩
         ·split at h
          ·rename_i A;have⟨w,O,_,_⟩:=ue aC A;split at h
           ·cases h
           ·rename_i l S i;cases h;have⟨c,C,_⟩:=i3 _ _ _ _ _ i;exact⟨a,w::c,by grind,fun _=>⟨Int.le_refl _,fun h=>by simp[one,T.n]at h⟩⟩
          ·cases h;simp[Int.le_refl,T.n,KL,one,Tok.at_]
  ·cases ts with
   |nil=>grind[rd,AB]
   |cons a R =>
    rw[rd]at h;split at h
    ·split at h
     ·cases h
     ·rename_i b G i;obtain⟨m,c,rfl,_⟩:=B _ _ _ _ (fun k d out h=>by cases h) i
      rcases Q _ _ _ _ _ _ h with⟨rfl,rfl⟩|⟨M,o,rfl,u,F,C⟩
      ·exact .inr ⟨rfl,a::m::c,by simp,a,by simp,rfl⟩
      grind[AB]
    grind[AB]
  ·rw[rd.args]at h;split at h
   ·rename_i A;have⟨w,O,_,_⟩:=ue aC A;cases h;exact⟨[w],by grind,by simp⟩
   ·split at h
    ·cases h
    ·rename_i H Z;split at h
     ·cases h
     ·rename_i a R i;obtain⟨m,c,C,_⟩:=B _ _ _ _ (fun k d out h=>by cases h) i
      grind[w4]
def M3{e:Int}{d:Nat}{ts r:List Tok}{t:T}(h:expr e d ts=.ok (t,r)):KL ts r t:=(Vm e _).1 _ _ _ _ (fun k d out h=>by cases h) h
end Go.Xp
namespace Go.Im
open Go.Xp Go.Sp
def uI(p:RS):ab:=match p.l[p.i-1]? with|some t=>t.s|none=>[]
def xa(p q:RS)(e:T):Prop:=e.n.ai=3/\q.code=0/\uI q=[93]/\e.n.at_=(tok p 0).at_/\(tok p 0).ai=2/\is q 0 [61]=true
instance(p q:RS)(e:T):Decidable (xa p q e):=by unfold xa;infer_instance
mutual
def iS:Nat->tA->RS->Option (T × RS)
 |0,_,_=>none
 |f+1,.block d,p =>
  if(cV p d).code=0 then match iB f (d+1) [] (want p [123])with
   |none=>none
   |some (l,q)=>some (one 14 (tok p 0).at_ [] l,want q [125])
  else some (one 14 (tok p 0).at_ [] [],cV p d)
 |f+1,.stmt d,p =>
  if(cV p d).code=0 then
   if is p 0 l7=true then match iE f (.expr (d+1)) (want (cv p.next) [61])with
    |none=>none
    |some (e,q)=>some (one 13 (tok p 0).at_ (tok p.next 0).s [e],want q [59])
   else if is p 0 gy=true\/is p 0 gP=true then match iE f (.expr (d+1)) (want p.next [40])with
    |none=>none
    |some (c,q)=>match iS f (.block (d+1)) (want q [41])with
     |none=>none
     |some (b,q) =>
      if is p 0 gy=true/\q.code=0/\is q 0 iH=true then match iS f (.block (d+1)) q.next with
       |none=>none
       |some (m,q)=>some (one 9 (tok p 0).at_ [] [c,b,m],q)
      else some (one (if is p 0 gy=true then 9 else 10) (tok p 0).at_ [] [c,b],q)
   else if is p 0 gW=true then match iE f (.expr (d+1)) p.next with
    |none=>none
    |some (e,q)=>some (one 11 (tok p 0).at_ [] [e],want q [59])
   else if(tok p 0).ai=2/\is p 1 [61]=true then match iE f (.expr (d+1)) (want (cv p) [61])with
    |none=>none
    |some (e,q)=>some (one 7 (tok p 0).at_ (tok p 0).s [e],want q [59])
   else match iE f (.expr (d+1)) p with
    |none=>none
    |some (e,q) =>
     if xa p q e then match e.aw,iE f (.expr (d+1)) (want q [61])with
      |a::_,some (v,q)=>some (one 8 (tok p 0).at_ e.n.s [a,v],want q [59])
      |_,_=>none
     else some (one 12 (tok p 0).at_ [] [e],want q [59])
  else some (T.zero,cV p d)
def iB:Nat->Nat->List T->RS->Option (List T × RS)
 |0,_,_,_=>none
 |f+1,d,W,p=>if p.code=0/\is p 0 [125]=false then match iS f (.stmt d) p with
   |none=>none
   |some (a,q)=>iB f d (W++[a]) q
  else some (W,p)
end
def KI(p:RS)(f:Nat):Nat:=f+20*p.l.length+40
section
variable{p q:RS}{ts r:List Tok}
theorem Li{d g:Nat}(W:On p ts)(hg:20*p.l.length+20<=g):∃t q,(∀g,20*p.l.length+20<=g->iE g (.expr d) p=some (t,q))/\((∃r,expr p.e d ts=.ok (t,r)/\cZ p q (.ok r))\/(∃x,expr p.e d ts=.error x/\cZ p q (.error x))):=by
 have M:ts.length<=p.l.length:=by rw[<-W.rest,sa];omega
 have m:rd p.e (20*ts.length+12) (.expr d) ts≠.error bO:=yV (j:=.expr d) trivial (aY _);have⟨t,q,o,b⟩:=(ie _).expr d ts p W m;rw[Cg (aY _)]at b;refine⟨t,q,fun g hg=>o g aH,?_⟩
 cases i:expr p.e d ts with
 |error x=>rw[i]at b;exact .inr ⟨x,rfl,b⟩
 |ok y=>have⟨k,r⟩:=y;rw[i]at b;obtain⟨rfl,b⟩:=b;grind
def Lh{d:Nat}{b:ab}(W:On p ts)(j:b≠[]):∃t q,(∀g,20*p.l.length+20<=g->iE g (.expr d) p=some (t,q))/\((∃r z,expr p.e d ts=.ok (t,r)/\Go.Xp.ba p.e b r=.ok z/\cZ p (want q b) (.ok z))\/(∃r x,expr p.e d ts=.ok (t,r)/\Go.Xp.ba p.e b r=.error x/\cZ p (want q b) (.error x))\/(∃x,expr p.e d ts=.error x/\cZ p (want q b) (.error x))):=by
 obtain⟨t,q,o,c⟩:=Li (d:=d) W (aY _);refine⟨t,q,o,?_⟩
 rcases c with⟨r,c,G⟩|⟨x,c,G⟩
 ·rcases nr G.1 j with⟨z,C,i⟩|⟨x,C,i⟩
  ·rw[G.2.2]at C;exact .inl ⟨r,z,c,C,G.tr i⟩
  ·rw[G.2.2]at C;exact .inr (.inl ⟨r,x,c,C,G.tr i⟩)
 ·exact .inr (.inr ⟨x,c,by rw[iy G.err];exact G⟩)
def NY{d:Nat}{a b:ab}(W:On p ts)(ha:a≠[])(i:b≠[]):∃t q,(∀g,20*p.l.length+20<=g->iE g (.expr d) (want p a)=some (t,q))/\((∃r,inner p.e d a b ts=.ok (t,r)/\cZ p (want q b) (.ok r))\/∃x,inner p.e d a b ts=.error x/\cZ p (want q b) (.error x)):=by
 unfold Go.Xp.inner
 rcases nr W ha with⟨r,o,c⟩|⟨x,o,c⟩
 ·rw[o];have⟨t,q,G,C⟩:=Lh (d:=d) (b:=b) c.1 i;rw[c.2.2]at C;rw[c.2.1]at G;refine⟨t,q,G,?_⟩;simp only
  rcases C with⟨r,z,R,O,S⟩|⟨r,x,R,O,S⟩|⟨x,R,S⟩
  ·rw[R];simp only;rw[O];exact .inl ⟨z,rfl,c.tr S⟩
  ·rw[R];simp only;rw[O];exact zbB
  ·rw[R];exact zbB
 ·rw[o];exact⟨T.zero,want p a,fun g X=>FB c.err aH,.inr ⟨x,rfl,by rw[iy c.err];exact c⟩⟩
def N6{d:Nat}(W:On p ts):∃t q,(∀g,20*p.l.length+20<=g->iE g (.expr d) (want (cv p) [61])=some (t,q))/\((∃r,mb p.e d ts=.ok (((tok p 0).s,t),r)/\cZ p (want q [59]) (.ok r))\/∃x,mb p.e d ts=.error x/\cZ p (want q [59]) (.error x)):=by
 unfold Go.Xp.mb
 rcases tU W with⟨r,o,c⟩|⟨x,o,c⟩
 ·rw[o];have⟨t,q,G,C⟩:=NY (d:=d) (a:=[61]) (b:=[59]) c.1 aC aC;rw[c.2.2]at C;rw[c.2.1]at G;refine⟨t,q,G,?_⟩;simp only
  rcases C with⟨r,R,S⟩|⟨x,R,S⟩
  ·rw[R];exact .inl ⟨r,rfl,c.tr S⟩
  ·rw[R];exact zbB
 ·rw[o];refine⟨T.zero,cv p,fun g X=>by rw[iy c.err];exact FB c.err aH,.inr ⟨x,rfl,by rw[iy c.err];exact c⟩⟩
def QU(h:p.code≠0){g d:Nat}(hg:1<=g):iS g (.block d) p=some (one 14 (tok p 0).at_ [] [],p):=by
 obtain⟨g,rfl⟩:∃Q,g=Q+1:=⟨g-1,by omega⟩;rw[iS,AK h,ae h]
theorem On.srt(h:On p ts)(G:ur p.l):ur ts:=by rw[<-h.rest];grind
theorem On.last(h:On p ts){M r:List Tok}{w:Tok}(J:cZ p q (.ok r))(Q:ts=(M++[w])++r):uI q=w.s:=by
 have o:p.l=p.l.take p.i++(M++w::r):=by
  have:=take_append_drop p.i p.l;rw[h.rest,Q]at this
  grind
 have v:=congrArg List.length J.1.rest;have O:=congrArg List.length o;have N:=J.1.le;have c:=h.le;rw[J.2.1]at v N;simp only[sa,br,length_cons,mf]at v O;unfold uI;rw[J.2.1,o,j0 zff,j0 zff]
 grind
end
structure IS'(f:Nat):Prop where
 block:∀d ts p,On p ts->ur p.l->rs p.e f (.block d) ts≠.error bO->∃t q,(∀g,KI p f<=g->iS g (.block d) p=some (t,q))/\eZ p q t (rs p.e f (.block d) ts)
 stmt:∀d ts p,On p ts->ur p.l->rs p.e f (.stmt d) ts≠.error bO->∃t q,(∀g,KI p f<=g->iS g (.stmt d) p=some (t,q))/\eZ p q t (rs p.e f (.stmt d) ts)
 body:∀d acc ts p,On p ts->ur p.l->rs.body p.e f d acc ts≠.error bO->∃t q,(∀g,KI p f<=g->iB g d acc p=some (t,q))/\eZ p (want q [125]) t (rs.body p.e f d acc ts)
def pN{p:RS}{f g:Nat}(h:KI p (f+1)<=g):∃Q,g=Q+1/\KI p f<=Q/\20*p.l.length+20<=Q:=⟨g-1,by grind[KI],by grind[KI],by grind[KI]⟩
def Ei{p q:RS}(h:q.l=p.l)(f:Nat):KI q f=KI p f:=by grind[KI]
def is_(f:Nat):IS' f:=by
 induction f with
 |zero=>exact⟨fun d ts p _ _ h=>absurd zfF h,fun d ts p _ _ h=>absurd zfF h,fun d acc ts p _ _ h=>absurd zfw h⟩
 |succ f C =>
  refine⟨fun d ts p A hs h=>?_,fun d ts p A hs h=>?_,fun d acc ts p A hs h=>?_⟩
  ·rw[rs]at h |-;have S:=On.uh A
   by_cases hd:d>60
   ·rw[ak hd]at h |-;have hf:=A.fail 9 (tok p 0).at_ aC;refine⟨one 14 (tok p 0).at_ [] [],p.fail 9 (tok p 0).at_,fun g z=>?_,by rw[<-S];exact hf⟩;obtain⟨g,rfl,o,j⟩:=pN z
    have u:cV p d=p.fail 9 (tok p 0).at_:=by grind[cV]
    rw[iS,u,ae hf.err]
   ·rw[ae hd]at h |-
    have u:cV p d=p:=by grind[cV]
    rcases nr A (s:=[123]) aC with⟨r,H,i⟩|⟨x,H,i⟩
    ·rw[H]at h |-;simp only at h |-
     have X:rs.body p.e f (d+1) [] r≠.error bO:=fun M=>h (by rw[M])
     rw[<-i.2.2]at X;obtain⟨l,q,m,E⟩:=C.body (d+1) [] r (want p [123]) i.1 (by rw[i.2.1];exact hs) X;rw[i.2.2]at E;rw[Ei i.2.1]at m;refine⟨one 14 (tok p 0).at_ [] l,want q [125],fun g z=>?_,?_⟩
     ·obtain⟨g,rfl,o,j⟩:=pN z;rw[iS,u,ak A.code,m g aH]
     ·cases he:rs.body p.e f (d+1) [] r with
      |error x=>rw[he]at E;exact i.tr (y:=.error x) E
      |ok y=>have⟨l',r'⟩:=y;rw[he]at E;obtain⟨rfl,E⟩:=E;rw[S];exact⟨rfl,i.tr E⟩
    ·rw[H]at h |-;refine⟨one 14 (tok p 0).at_ [] [],want p [123],fun g z=>?_,i⟩;obtain⟨g,rfl,o,j⟩:=pN z;rw[iS,u,ak A.code];obtain⟨g,rfl⟩:∃g',g=g'+1:=⟨g-1,by omega⟩;rw[iB,ae (fun M=>i.err M.1)];simp only;rw[iy i.err]
  ·rw[rs]at h |-;have S:=On.uh A
   by_cases hd:d>60
   ·rw[ak hd]at h |-;have hf:=A.fail 9 (tok p 0).at_ aC;refine⟨T.zero,p.fail 9 (tok p 0).at_,fun g z=>?_,by rw[<-S];exact hf⟩;obtain⟨g,rfl,o,j⟩:=pN z
    have u:cV p d=p.fail 9 (tok p 0).at_:=by grind[cV]
    rw[iS,u,ae hf.err]
   ·rw[ae hd]at h |-
    have u:cV p d=p:=by grind[cV]
    have hi:∀s:ab,s≠[]->is p 0 s=decide (aJ ts 0=s):=fun s hs=>On.is A 0 hs
    have hi1:is p 1 [61]=decide (aJ ts 1=[61]):=On.is A 1 aC;simp only at h |-
    by_cases hv:aJ ts 0=l7
    ·rw[ak hv]
     have F:is p 0 l7=true:=by grind[is,l7]
     have⟨tv,Z,_⟩:=eF aC hv;have G:=A;rw[Z]at G
     have G:=G.next
     rw[show p.e=p.next.e from rfl];have⟨t,q,H,i⟩:=N6 (d:=d+1) G.1
     rcases i with⟨r,i,m⟩|⟨x,i,m⟩
     ·rw[i];refine⟨one 13 (tok p 0).at_ (tok p.next 0).s [t],want q [59],fun g z=>?_,by rw[S];rfl,G.tr m⟩;exact zeR
     ·rw[i];refine⟨one 13 (tok p 0).at_ (tok p.next 0).s [t],want q [59],fun g z=>?_,G.tr (y:=.error x) m⟩;exact zeR
    rw[ae hv]at h |-
    have F:¬is p 0 l7=true:=by grind[is,l7]
    by_cases hc:aJ ts 0=gy\/aJ ts 0=gP
    ·rw[ak hc]at h |-
     have J:is p 0 gy=true\/is p 0 gP=true:=by grind[is,gy,gP]
     obtain⟨tv,Z⟩:∃t,ts=t::ts.tail:=by
      rcases hc with hc|hc
      ·have⟨t,H,_⟩:=eF aC hc;grind
      ·have⟨t,H,_⟩:=eF aC hc;grind
     have G:=A;rw[Z]at G
     have G:=G.next
     have NC:(if is p 0 gy=true then(9:Int)else 10)=if aJ ts 0=gy then 9 else 10:=by grind[is]
     have⟨c,q,H,i⟩:=NY (d:=d+1) (a:=[40]) (b:=[41]) G.1 aC aC
     rcases i with⟨r,i,m⟩|⟨x,i,m⟩
     ·rw[show p.next.e=p.e from rfl]at i;rw[i]at h |-;simp only at h |-;have m:=G.tr m
      have X:rs p.e f (.block (d+1)) r≠.error bO:=fun M=>h (by rw[M])
      rw[<-m.2.2]at X;obtain⟨b,q2,E,O⟩:=C.block (d+1) r (want q [41]) m.1 (by rw[m.2.1];exact hs) X;rw[m.2.2]at O;rw[Ei m.2.1]at E
      cases he:rs p.e f (.block (d+1)) r with
      |error x =>
       rw[he]at O;refine⟨one (if is p 0 gy=true then 9 else 10) (tok p 0).at_ [] [c,b],q2,fun g z=>?_,m.tr (y:=.error x) O⟩;obtain⟨g,rfl,o,j⟩:=pN z;rw[iS,u,ak A.code,ae F,ak J,H g j];simp only;rw[E g o];simp only;rw[ae (fun M=>cZ.err O M.2.1)]
      |ok y =>
       have⟨b',r2⟩:=y;rw[he]at O h;obtain⟨rfl,O⟩:=O;simp only at h |-;have O:=m.tr O;have Fv:is q2 0 iH=decide (aJ r2 0=iH):=On.is O.1 0 aC
       by_cases S7:aJ ts 0=gy
       ·rw[ak S7]at h NC |-
        have W8:is p 0 gy=true:=by grind
        by_cases xn:aJ r2 0=iH
        ·rw[ak xn]at h |-;have⟨te,NU,_⟩:=eF aC xn;have Q:=O.1;rw[NU]at Q
         have Q:=O.tr Q.next
         have X:rs p.e f (.block (d+1)) r2.tail≠.error bO:=fun M=>h (by rw[M])
         rw[<-Q.2.2]at X
         obtain⟨b2,q3,h6,h7⟩:=C.block (d+1) r2.tail q2.next Q.1 (by rw[Q.2.1];exact hs) X
         rw[Q.2.2]at h7;rw[Ei Q.2.1]at h6;refine⟨one 9 (tok p 0).at_ [] [c,b,b2],q3,fun g z=>?_,?_⟩
         ·obtain⟨g,rfl,o,j⟩:=pN z;rw[iS,u,ak A.code,ae F,ak J,H g j];simp only;rw[E g o];simp only;rw[ak ⟨W8,O.1.code,by grind⟩,h6 g o]
         ·cases xN:rs p.e f (.block (d+1)) r2.tail with
          |error x=>rw[xN]at h7;exact Q.tr (y:=.error x) h7
          |ok y=>have⟨b3,r3⟩:=y;rw[xN]at h7;obtain⟨rfl,h7⟩:=h7;exact⟨by rw[S],Q.tr h7⟩
        ·rw[ae xn];exact zbF
       ·rw[ae S7]at NC |-
        have W8:¬is p 0 gy=true:=by grind
        exact zbF
     ·rw[show p.next.e=p.e from rfl]at i;rw[i]at h |-;have m:=G.tr (y:=.error x) m;refine⟨one (if is p 0 gy=true then 9 else 10) (tok p 0).at_ [] [c,one 14 (tok (want q [41]) 0).at_ [] []],want q [41],fun g z=>?_,m⟩;obtain⟨g,rfl,o,j⟩:=pN z;rw[iS,u,ak A.code,ae F,ak J,H g j];simp only;rw[QU m.err aH];simp only;rw[ae (fun M=>m.err M.2.1)]
    rw[ae hc]at h |-
    have J:¬(is p 0 gy=true\/is p 0 gP=true):=by grind[is,gy,gP]
    by_cases hr:aJ ts 0=gW
    ·rw[ak hr]
     have R:is p 0 gW=true:=by grind[is,gW]
     have⟨tv,Z,_⟩:=eF aC hr;have G:=A;rw[Z]at G
     have G:=G.next
     have⟨t,q,H,i⟩:=Lh (d:=d+1) (b:=[59]) G.1 aC;rw[show p.next.e=p.e from rfl]at i;refine⟨one 11 (tok p 0).at_ [] [t],want q [59],fun g z=>?_,?_⟩
     ·obtain⟨g,rfl,o,j⟩:=pN z;rw[iS,u,ak A.code,ae F,ae J,ak R,H g j]
     ·rcases i with⟨r,r',i,m,E⟩|⟨r,x,i,m,E⟩|⟨x,i,E⟩
      ·rw[i];simp only;rw[m];exact⟨by rw[S],G.tr E⟩
      ·rw[i];simp only;rw[m];exact zeO
      ·rw[i];exact zeO
    rw[ae hr]at h |-
    have R:¬is p 0 gW=true:=by grind[is,gW]
    cases ts with
    |nil =>
     have ht:tok p 0=⟨0,0,[],p.e⟩:=by grind[On.tok]
     have B:¬((tok p 0).ai=2/\is p 1 [61]=true):=fun hx=>by grind
     obtain⟨t,q,H,i⟩:=Li (d:=d+1) A (aY _)
     rcases i with⟨r,i,m⟩|⟨x,i,m⟩
     ·exact zeX
     ·have W:¬xa p q t:=fun M=>m.err M.2.1
      refine⟨one 12 (tok p 0).at_ [] [t],want q [59],fun g z=>?_,by unfold simple;rw[i,iy m.err];exact m⟩;exact za0
    |cons a r0 =>
     simp only[simple]at h |-
     have ht:tok p 0=a:=by grind[On.tok]
     by_cases Y:a.ai=2/\aJ (a::r0) 1=[61]
     ·rw[ak Y];have B:(tok p 0).ai=2/\is p 1 [61]=true:=⟨by grind,by grind⟩;have⟨t,q,H,i⟩:=N6 (d:=d+1) A
      rcases i with⟨r,i,m⟩|⟨x,i,m⟩
      ·rw[i];refine⟨one 7 (tok p 0).at_ (tok p 0).s [t],want q [59],fun g z=>?_,by grind,m⟩;exact zdW
      ·rw[i];refine⟨one 7 (tok p 0).at_ (tok p 0).s [t],want q [59],fun g z=>?_,m⟩;exact zdW
     ·rw[ae Y]
      have B:¬((tok p 0).ai=2/\is p 1 [61]=true):=fun hx=>Y ⟨by grind,by grind⟩
      obtain⟨t,q,H,i⟩:=Li (d:=d+1) A (aY _)
      rcases i with⟨r,i,m⟩|⟨x,i,m⟩
      ·rw[i];simp only;have Fv:is q 0 [61]=decide (aJ r 0=[61]):=On.is m.1 0 aC
       by_cases N:t.n.ai=3/\t.n.at_=a.at_/\aJ r 0=[61]
       ·rw[ak N];have⟨a',pre,Xu,Xv⟩:=M3 i;cases Xu;have⟨hk2,ach,w,hw1,Xz⟩:=(Xv (On.srt A hs)).2 N.1 N.2.1
        have Zy:uI q=[93]:=by grind[On.last]
        have W:xa p q t:=⟨N.1,m.1.code,Zy,by grind,by grind,by grind⟩;obtain⟨ix,hix⟩:=O4 _ _ _ _ _ _ (fun k d out hj=>by cases hj) i N.1
        have Td:Go.Xp.ba p.e [61] r=.ok r.tail:=by grind[ba]
        have hwa:=On.want m.1 (s:=[61]) aC;rw[m.2.2,Td]at hwa;have G:=m.tr hwa;have⟨v,q2,E,O⟩:=Lh (d:=d+1) (b:=[59]) G.1 aC;rw[G.2.2]at O;rw[G.2.1]at E;refine⟨one 8 (tok p 0).at_ t.n.s [ix,v],want q2 [59],fun g z=>?_,?_⟩
        ·exact za0
        ·unfold Go.Xp.inner;rw[Td];simp only
         rcases O with⟨r2,r',i,m,E⟩|⟨r2,x,i,m,E⟩|⟨x,i,E⟩
         ·rw[i];simp only;rw[m];exact⟨by grind,G.tr E⟩
         ·rw[i];simp only;rw[m];exact zeO
         ·rw[i];exact zeO
       ·rw[ae N]
        have W:¬xa p q t:=fun M=>N ⟨M.1,by rw[<-ht];exact M.2.2.2.1,by have:=M.2.2.2.2.2;grind⟩
        refine⟨one 12 (tok p 0).at_ [] [t],want q [59],fun g z=>?_,?_⟩
        ·exact za0
        ·rcases nr m.1 (s:=[59]) aC with⟨r',E,O⟩|⟨x,E,O⟩
         ·rw[m.2.2]at E;rw[E];exact⟨by rw[ht],m.tr O⟩
         ·rw[m.2.2]at E;rw[E];exact m.tr (y:=.error x) O
      ·rw[i]
       have W:¬xa p q t:=fun M=>m.err M.2.1
       refine⟨one 12 (tok p 0).at_ [] [t],want q [59],fun g z=>?_,by rw[iy m.err];exact m⟩;exact za0
  ·rw[rs.body]at h |-;have hi:is p 0 [125]=decide (aJ ts 0=[125]):=On.is A 0 aC
   by_cases X:aJ ts 0=[125]
   ·rw[ak X];have hm:=On.want A (s:=[125]) aC;unfold Go.Xp.ba at hm;rw[ak X]at hm;refine⟨acc,p,fun g z=>?_,rfl,hm⟩;obtain⟨g,rfl,o,j⟩:=pN z
    grind[iB]
   ·rw[ae X]at h |-
    have Xq:rs p.e f (.stmt d) ts≠.error bO:=fun M=>h (by rw[M])
    have⟨a,q,H,i⟩:=C.stmt d ts p A hs Xq;have hc:p.code=0/\is p 0 [125]=false:=⟨A.code,by grind⟩
    cases he:rs p.e f (.stmt d) ts with
    |error x =>
     rw[he]at i h;refine⟨acc++[a],q,fun g z=>?_,by rw[iy (cZ.err i)];exact i⟩;obtain⟨g,rfl,o,j⟩:=pN z;rw[iB,ak hc,H g o];simp only;obtain⟨g,rfl⟩:∃g',g=g'+1:=⟨g-1,by omega⟩;rw[iB,ae (fun M=>cZ.err i M.1)]
    |ok y =>
     have⟨a',r⟩:=y;rw[he]at i h;obtain⟨rfl,i⟩:=i;simp only at h |-;rw[<-i.2.2]at h |-;obtain⟨l,q3,m,E⟩:=C.body d (acc++[a]) r q i.1 (by rw[i.2.1];exact hs) h;rw[Ei i.2.1]at m;refine⟨l,q3,fun g z=>?_,eZ.tr i E⟩;obtain⟨g,rfl,o,j⟩:=pN z
     grind[iB]
section
variable{p q:RS}
theorem sE{k:Nat}(h:(tok p k).ai≠0):p.i+k<p.l.length:=by
 grind[tok,Nat.lt_of_not_le,List.getElem?_eq_none_iff]
theorem is_lt{k:Nat}{s:ab}(h:is p k s=true):p.i+k<p.l.length:=by
 simp_all[is,aI,sE]
theorem lj{s:ab}(h:is p 0 s=true):p.to p.next:=cY (is_lt h)
theorem xd(W:p.ok):p.to (lN p):=ni W _ _
theorem dr(W:p.ok)(s:ab):p.to (want p s):=by
 grind[lj,xd,jV,RS.to,want]
theorem jz(W:p.ok):p.to (cv p):=by
 unfold cv;split
 ·split
  ·rename_i h;split
   ·grind[ni]
   ·exact cY (sE (k:=0) aH)
  ·exact xd W
 ·exact jV W
theorem uS(W:p.ok)(d:Nat):p.to (cV p d):=by
 grind[ni,jV,RS.to,cV]
theorem pG{d:Nat}(h:(cV p d).code=0):cV p d=p:=by
 unfold cV at h |-
 grind[RS.fail]
end
def ku:∀(f:Nat),(∀j p t q,p.ok->iE f j p=some (t,q)->p.to q)/\(∀d T p l q,p.ok->iA f d T p=some (l,q)->p.to q)
 |0=>⟨fun j p t q _ h=>by simp[iE]at h,fun d T p l q _ h=>by simp[iA]at h⟩
 |f+1=>by
  have⟨o,n⟩:=ku f;refine⟨fun j p t q W h=>?_,fun d T p l q W h=>?_⟩
  ·cases j with
   |expr d =>
    rw[iE]at h;have Y:=uS W d;split at h
    ·exact Y.trans (o _ _ _ _ (Y.ok W) h)
    grind
   |level k d =>
    rw[iE]at h;split at h
    ·grind
    ·split at h
     ·cases h
     ·rename_i out m e;have:=o _ _ _ _ W e;exact zcB
   |loop k d out =>
    rw[iE]at h;split at h
    ·rename_i X;have c:=cY (p:=p) (sE (k:=0) aH);split at h
     ·cases h
     ·rename_i b m e;have:=c.trans (o _ _ _ _ (c.ok W) e);exact zcB
    grind[jV]
   |operand d =>
    rw[iE]at h;split at h
    ·split at h
     ·rename_i X
      have c:p.to p.next:=by grind[lj]
      split at h
      ·cases h
      ·rename_i a m e
       cases h;exact c.trans (o _ _ _ _ (c.ok W) e)
     ·split at h
      ·rename_i N
       cases h;exact cY (sE (k:=0) aH)
      ·split at h
       ·rename_i X;have c:=lj X;split at h
        ·cases h
        ·rename_i a m e;have:=c.trans (o _ _ _ _ (c.ok W) e)
         cases h;exact zbI
       ·have c:=jz W;split at h
        ·split at h
         ·rename_i X;have i:=c.trans (lj X);split at h
          ·cases h
          ·rename_i a m e;have:=i.trans (o _ _ _ _ (i.ok W) e)
           cases h;exact zbI
         ·split at h
          ·rename_i X;have i:=c.trans (lj X);split at h
           ·cases h
           ·rename_i a m e
            cases h;exact i.trans (n _ _ _ _ _ (i.ok W) e)
          grind
        grind
    grind[uS]
  ·rw[iA]at h;split at h
   ·have c:p.to (if T.length=0 then p else want p [44]):=by
     grind[jV,dr]
    split at h
    ·cases h
    ·rename_i a m e;have:=c.trans (o _ _ _ _ (c.ok W) e);exact this.trans (n _ _ _ _ _ (this.ok W) h)
   grind[dr]
def En:∀(f:Nat),(∀j p t q,p.ok->iS f j p=some (t,q)->p.to q)/\(∀d T p l q,p.ok->iB f d T p=some (l,q)->p.to q)
 |0=>⟨fun j p t q _ h=>by simp[iS]at h,fun d T p l q _ h=>by simp[iB]at h⟩
 |f+1=>by
  have⟨o,n⟩:=En f;have z:=(ku f).1;refine⟨fun j p t q W h=>?_,fun d T p l q W h=>?_⟩
  ·cases j with
   |block d =>
    rw[iS]at h;split at h
    ·have u:=dr W [123];split at h
     ·cases h
     ·rename_i l k i;have:=u.trans (n _ _ _ _ _ (u.ok W) i)
      cases h;exact zbI
    grind[uS]
   |stmt d =>
    rw[iS]at h;split at h
    ·split at h
     ·rename_i G;have c:=lj G;have A:=c.trans (jz (c.ok W));have R:=A.trans (dr (A.ok W) [61]);split at h
      ·cases h
      ·rename_i e k i;have:=R.trans (z _ _ _ _ (R.ok W) i)
       cases h;exact zbI
     ·split at h
      ·rename_i G
       have c:p.to p.next:=by grind[lj]
       have R:=c.trans (dr (c.ok W) [40]);split at h
       ·cases h
       ·rename_i e k i;have:=R.trans (z _ _ _ _ (R.ok W) i);have S:=this.trans (dr (this.ok W) [41]);split at h
        ·cases h
        ·rename_i b Y w;have O:=S.trans (o _ _ _ _ (S.ok W) w);split at h
         ·rename_i X;have m:=O.trans (lj X.2.2);split at h
          ·cases h
          ·rename_i B C Q
           cases h;exact m.trans (o _ _ _ _ (m.ok W) Q)
         grind
      ·split at h
       ·rename_i G;have c:=lj G;split at h
        ·cases h
        ·rename_i e k i;have:=c.trans (z _ _ _ _ (c.ok W) i)
         cases h;exact zbI
       ·split at h
        ·have A:=jz W;have R:=A.trans (dr (A.ok W) [61]);split at h
         ·cases h
         ·rename_i e k i;have:=R.trans (z _ _ _ _ (R.ok W) i)
          cases h;exact zbI
        ·split at h
         ·cases h
         ·rename_i e k i;have hx:=z _ _ _ _ W i;split at h
          ·have c:=hx.trans (dr (hx.ok W) [61]);split at h
           ·rename_i a r v Y N s;have:=c.trans (z _ _ _ _ (c.ok W) s)
            cases h;exact zbI
           ·cases h
          ·cases h;exact hx.trans (dr (hx.ok W) _)
    grind[uS]
  ·rw[iB]at h;split at h
   ·split at h
    ·cases h
    ·rename_i a k i;have:=o _ _ _ _ W i;exact this.trans (n _ _ _ _ _ (this.ok W) h)
   grind[jV]
theorem vK(p:RS):p.next.i=p.i+1:=rfl
def XE:∀(f:Nat)j p t q,p.ok->iE f j p=some (t,q)->q.code=0->(∀k d out,j≠.loop k d out)->p.i<q.i:=by
 intro f
 induction f with
 |zero=>grind[iE]
 |succ f O =>
  intro j p t q W h J Y
  cases j with
  |loop k d out=>grind
  |expr d =>
   grind[iE,pG]
  |level k d =>
   rw[iE]at h;split at h
   ·grind
   ·split at h
    ·cases h
    ·rename_i out m e;have n:=(ku f).1 _ _ _ _ W e
     have N:m.code=0:=by
      by_cases X:m.code=0
      ·exact X
      ·cases f with
       |zero=>simp[iE]at h
       |succ f =>
        simp_all[iE,ae]
     have o:=O _ _ _ _ W e N (fun k d out h=>by cases h);have b:=(ku f).1 _ _ _ _ (n.ok W) h;have:=b.2.2.2;omega
  |operand d =>
   rw[iE]at h;split at h
   ·split at h
    ·rename_i X
     have l:p.to p.next:=by grind[lj]
     split at h
     ·cases h
     ·rename_i a m e;cases h;have:=((ku f).1 _ _ _ _ (l.ok W) e).2.2.2
      grind[vK]
    ·split at h
     ·grind[vK]
     ·split at h
      ·rename_i X;have l:=lj X;split at h
       ·cases h
       ·rename_i a m e;cases h;have o:=(ku f).1 _ _ _ _ (l.ok W) e;have b:=(dr ((o.ok (l.ok W))) [41]).2.2.2;have:=o.2.2.2
        grind[vK]
      ·have l:=jz W;split at h
       ·rename_i R
        have N:p.i<(cv p).i:=by
         unfold cv at R |-;split at R
         ·rename_i r;split at R
          ·rename_i b;split at R
           ·unfold RS.fail at R;grind
           simp_all[ak,ae,vK]
          ·unfold lN RS.fail at R;grind
         omega
        split at h
        ·rename_i X;have c:=l.trans (lj X);split at h
         ·cases h
         ·rename_i a m e;cases h;have o:=(ku f).1 _ _ _ _ (c.ok W) e;have b:=(dr ((o.ok (c.ok W))) [93]).2.2.2;have:=o.2.2.2
          grind[vK]
        ·split at h
         ·rename_i X;have c:=l.trans (lj X);split at h
          ·cases h
          ·rename_i a m e;cases h;have:=((ku f).2 _ _ _ _ _ (c.ok W) e).2.2.2
           grind[vK]
         grind
       grind
   grind
end Go.Im
namespace Go.Xp
mutual
def aU:T->Nat
 |.mk _ l=>aM l+1
def aM:List T->Nat
 |[]=>0
 |t::r=>aU t+aM r
end
def bx:Nat->List T->List Int
 |_,[]=>[]
 |n,t::r=>(n:Int)::bx (n+aU t) r
mutual
def dW:Nat->T->List Nd
 |n,.mk C l=>⟨C.ai,C.at_,C.n,C.s,bx (n+1) l⟩::bZ (n+1) l
def bZ:Nat->List T->List Nd
 |_,[]=>[]
 |n,t::r=>dW n t++bZ (n+aU t) r
end
theorem eI(t:T):aU t=aM t.aw+1:=by cases t;rfl
theorem M8(n:Nat)(t:T):dW n t=⟨t.n.ai,t.n.at_,t.n.n,t.n.s,bx (n+1) t.aw⟩::bZ (n+1) t.aw:=by cases t;rfl
section
variable(a b:List T)
theorem pj:aM (a++b)=aM a+aM b:=by
 induction a with
 |nil=>simp[aM]
 |cons t a O=>grind[aM]
theorem wM(n:Nat):bx n (a++b)=bx n a++bx (n+aM a) b:=by
 induction a generalizing n with
 |nil=>rfl
 |cons t a O=>grind[bx,aM]
theorem vo(n:Nat):bZ n (a++b)=bZ n a++bZ (n+aM a) b:=by
 induction a generalizing n with
 |nil=>rfl
 |cons t a O=>grind[bZ,aM]
end
theorem dw(a:List T)(n:Nat):(bx n a).length=a.length:=by
 induction a generalizing n with
 |nil=>rfl
 |cons t a O=>simp[bx,O]
def M9:∀(N:Nat),(∀t:T,aU t<=N->∀n,(dW n t).length=aU t)/\(∀l:List T,aM l<=N->∀n,(bZ n l).length=aM l):=by
 intro N
 induction N with
 |zero =>
  refine⟨fun t h=>by grind[eI],fun l h n=>?_⟩
  cases l with
  |nil=>rfl
  |cons t l=>rw[aM,eI]at h;omega
 |succ N O =>
  have o:∀t:T,aU t<=N+1->∀n,(dW n t).length=aU t:=fun t h n=>by
   grind[eI,M8,length_cons]
  refine⟨o,fun l=>?_⟩
  induction l with
  |nil=>intro _ n;rfl
  |cons t l z =>
   grind[aM,bZ]
theorem qu(t:T)(n:Nat):(dW n t).length=aU t:=(M9 (aU t)).1 t (aY _) n
theorem kp(l:List T)(n:Nat):(bZ n l).length=aM l:=(M9 (aM l)).2 l (aY _) n
theorem pL(l:List T)(k:Nat):aM (l.take k)<=aM l:=by
 grind[pj,take_append_drop]
def r7{l:List T}{k:Nat}{t:T}(h:l[k]?=some t):aM (l.take (k+1))=aM (l.take k)+aU t:=by
 grind[dd,pj,aM,aU]
theorem eP(l:List T):l.length<=aM l:=by
 induction l with
 |nil=>simp
 |cons t l O=>rw[aM,eI,length_cons];omega
open Go.Sp (bm eD)
abbrev K:=Int × Int × ab
def kf(t:Tok):K:=(t.ai,t.n,t.s)
abbrev kS(s:ab):K:=(3,0,s)
abbrev kN(s:ab):K:=(2,0,s)
abbrev kI(n:Int):K:=(1,n,[])
inductive E where
 |num (n:Int)
 |name (s:ab)
 |at_ (s:ab) (a:E)
 |call (s:ab) (l:List E)
 |un (s:ab) (a:E)
 |bin (s:ab) (a b:E)
def fk(s:ab):Nat:=(levels.findIdx? fun l=>l.contains s).getD 9
def E.lv:E->Nat
 |.bin s _ _=>fk s
 |_=>9
def brk(lv k:Nat)(x:List K):List K:=if lv<k then kS [40]::(x++[kS [41]])else x
mutual
def E.tk:E->List K
 |.num n=>[kI n]
 |.name s=>[kN s]
 |.at_ s a=>kN s::kS [91]::(a.tk++[kS [93]])
 |.call s l=>kN s::kS [40]::(E.nT l++[kS [41]])
 |.un s a=>kS s::brk a.lv 9 a.tk
 |.bin s a b=>brk a.lv (fk s) a.tk++kS s::brk b.lv (fk s+1) b.tk
def E.nT:List E->List K
 |[]=>[]
 |a::l=>a.tk++E.qX l
def E.qX:List E->List K
 |[]=>[]
 |a::l=>kS [44]::(a.tk++E.qX l)
end
mutual
def E.tree:E->T
 |.num n=>.mk ⟨1,0,n,[],[]⟩ []
 |.name s=>.mk ⟨2,0,0,s,[]⟩ []
 |.at_ s a=>.mk ⟨3,0,0,s,[]⟩ [a.tree]
 |.call s l=>.mk ⟨4,0,0,s,[]⟩ (E.aE l)
 |.un s a=>.mk ⟨5,0,0,s,[]⟩ [a.tree]
 |.bin s a b=>.mk ⟨6,0,0,s,[]⟩ [a.tree,b.tree]
def E.aE:List E->List T
 |[]=>[]
 |a::l=>a.tree::E.aE l
end
def IC(lv k d:Nat)(f:Nat->Bool):Bool:=if lv<k then decide (d<=60)&&decide (d+1<=60)&&f (d+2)else f d
mutual
def E.fit:E->Nat->Bool
 |.num _,d=>decide (d<=60)
 |.name _,d=>decide (d<=60)
 |.at_ _ a,d=>decide (d<=60)&&decide (d+1<=60)&&a.fit (d+2)
 |.call _ l,d=>decide (d<=60)&&E.fits l (d+1)
 |.un _ a,d=>decide (d<=60)&&(if a.lv<9 then decide (d+1<=60)&&decide (d+2<=60)&&a.fit (d+3)else a.fit (d+1))
 |.bin s a b,d=>(if a.lv<fk s then decide (d<=60)&&decide (d+1<=60)&&a.fit (d+2)else a.fit d)&&(if b.lv<fk s+1 then decide (d<=60)&&decide (d+1<=60)&&b.fit (d+2)else b.fit d)
def E.fits:List E->Nat->Bool
 |[],_=>true
 |a::l,d=>decide (d<=60)&&a.fit (d+1)&&E.fits l d
end
mutual
def E.ok:E->Bool
 |.num n=>decide (0<=n)&&decide (n<=2147483647)
 |.name s=>bm s
 |.at_ s a=>bm s&&a.ok
 |.call s l=>bm s&&E.cJ l
 |.un s a=>(s==[45] ||s==[33] ||s==[126])&&a.ok
 |.bin s a b=>eD s&&a.ok&&b.ok
def E.cJ:List E->Bool
 |[]=>true
 |a::l=>a.ok&&E.cJ l
end
mutual
def er:T->T
 |.mk n l=>.mk ⟨n.ai,0,n.n,n.s,[]⟩ (bl l)
def bl:List T->List T
 |[]=>[]
 |t::l=>er t::bl l
end
theorem IW(l k:List T):bl (l++k)=bl l++bl k:=by
 induction l with
 |nil=>rfl
 |cons t l O=>simp[bl,O]
theorem tf(l:List T):bl l=l.map er:=by
 induction l with
 |nil=>rfl
 |cons t l O=>simp[bl,O]
theorem fa(k a:Int)(s:ab)(l:List T):er (one k a s l)=.mk ⟨k,0,0,s,[]⟩ (bl l):=by rfl
def Ev(e:Int)(j:uq)(ts:List Tok)(x:Rd T):Prop:=∃s,∀f,s<=f->rd e f j ts=x
def Ea(e:Int)(d:Nat)(W:List T)(ts:List Tok)(x:Rd (List T)):Prop:=∃s,∀f,s<=f->rd.args e f d W ts=x
section
variable{e:Int}{d k:Nat}{ts r:List Tok}{t out:T}{x:Rd T}{y:Er}
theorem zm{j w:uq}{ts u:List Tok}{x m:Rd T}(h:Ev e j ts x)(G:∀f,rd e f j ts=x->rd e (f+1) w u=m):Ev e w u m:=by
 have⟨s,o⟩:=h;refine⟨s+1,fun f l=>?_⟩;obtain⟨f,rfl⟩:∃g,f=g+1:=⟨f-1,by omega⟩
 grind
theorem ev2{j w v:uq}{ts u s:List Tok}{x m W:Rd T}(h:Ev e j ts x)(b:Ev e v s W)(G:∀f,rd e f j ts=x->rd e f v s=W->rd e (f+1) w u=m):Ev e w u m:=by
 have⟨z,o⟩:=h;have⟨cL,q⟩:=b;refine⟨z+cL+1,fun f l=>?_⟩;obtain⟨f,rfl⟩:∃g,f=g+1:=⟨f-1,by omega⟩
 grind
def MY{w:uq}{u:List Tok}{m:Rd T}(G:∀f,rd e (f+1) w u=m):Ev e w u m :=
 ⟨1,fun f l=>by obtain⟨f,rfl⟩:∃g,f=g+1:=⟨f-1,by omega⟩;exact G f⟩
theorem Ev.expr(hd:d<=60)(h:Ev e (.level 0 (d+1)) ts x):Ev e (.expr d) ts x:=zm h fun f h=>by grind[rd]
theorem Ev.Zq(hd:60<d):Ev e (.expr d) ts (.error (9,place e ts)):=MY fun f=>by grind[rd]
theorem Ev.level(N:k≠9)(h:Ev e (.level (k+1) d) ts (.ok (out,r)))(b:Ev e (.loop k d out) r x):Ev e (.level k d) ts x:=ev2 h b fun f h b=>by grind[rd]
theorem Ev.XR(N:k≠9)(h:Ev e (.level (k+1) d) ts (.error y)):Ev e (.level k d) ts (.error y):=zm h fun f h=>by grind[rd]
theorem Ev.FY(h:Ev e (.operand d) ts x):Ev e (.level 9 d) ts x:=zm h fun f h=>by grind[rd]
theorem Ev.stop(h:aJ ts 0 ∉ levels.getD k []):Ev e (.loop k d out) ts (.ok (out,ts)):=MY fun f=>by
 cases ts with
 |nil=>rw[rd]
 |cons t r =>
  rw[rd,ae];rintro⟨G,C⟩
  simp_all[aJ,getElem?_cons_zero,dS,if_true]
theorem Ev.go{t:Tok}{b:T}{z:List Tok}(G:t.ai=3)(H:t.s∈levels.getD k [])(h:Ev e (.level (k+1) d) r (.ok (b,z)))(c:Ev e (.loop k d (one 6 t.at_ t.s [out,b])) z x):Ev e (.loop k d out) (t::r) x :=
 ev2 h c fun f h c=>by grind[rd]
theorem Ev.goX{t:Tok}(G:t.ai=3)(H:t.s∈levels.getD k [])(h:Ev e (.level (k+1) d) r (.error y)):Ev e (.loop k d out) (t::r) (.error y) :=
 zm h fun f h=>by grind[rd]
theorem Ev.SC(hd:60<d):Ev e (.operand d) ts (.error (9,place e ts)):=MY fun f=>by simp_all[rd.eq_def,ak]
theorem Ev.num{t:Tok}(hd:d<=60)(h:t.ai=1):Ev e (.operand d) (t::r) (.ok (.mk ⟨1,t.at_,t.n,[],[]⟩ [],r)):=MY fun f=>by
 simp_all[rd.eq_def,ae,ak]
theorem Ev.un{t:Tok}{a:T}{z:List Tok}(hd:d<=60)(G:t.ai=3)(H:t.s=[45]\/t.s=[33]\/t.s=[126])(h:Ev e (.operand (d+1)) r (.ok (a,z))):Ev e (.operand d) (t::r) (.ok (one 5 t.at_ t.s [a],z)) :=
 zm h fun f h=>by grind[rd.eq_def]
theorem Ev.unX{t:Tok}(hd:d<=60)(G:t.ai=3)(H:t.s=[45]\/t.s=[33]\/t.s=[126])(h:Ev e (.operand (d+1)) r (.error y)):Ev e (.operand d) (t::r) (.error y) :=
 zm h fun f h=>by grind[rd]
theorem Ev.par{t u:Tok}{a:T}{z:List Tok}(hd:d<=60)(G:t.ai=3)(H:t.s=[40])(M:u.ai=3)(C:u.s=[41])(h:Ev e (.expr (d+1)) r (.ok (a,u::z))):Ev e (.operand d) (t::r) (.ok (a,z)) :=
 zm h fun f h=>by
  rw[rd.eq_def];simp only;rw[ae aH,ak G,ae zff,ak H,h];simp only[ba,aJ,getElem?_cons_zero,dS,M,if_true,C,tail_cons]
theorem Ev.abp{t:Tok}(hd:d<=60)(G:t.ai=3)(H:t.s=[40])(h:Ev e (.expr (d+1)) r (.error y)):Ev e (.operand d) (t::r) (.error y) :=
 zm h fun f h=>by grind[rd]
theorem th{t:Tok}(b:t.ai=2)(M:t.s.length<=12):name e (t::r)=.ok (t.s,r):=by
 simp only[name,b,if_true];grind
theorem Ev.name{t:Tok}(hd:d<=60)(b:t.ai=2)(M:t.s.length<=12)(u:aJ r 0≠[91])(J:aJ r 0≠[40]):Ev e (.operand d) (t::r) (.ok (one 2 t.at_ t.s [],r)):=MY fun f=>by
 simp_all[rd.eq_def,ae,th]
def Ev.ix{t u w:Tok}{a:T}{z:List Tok}(hd:d<=60)(b:t.ai=2)(N:t.s.length<=12)(O:u.ai=3)(C:u.s=[91])(l:w.ai=3)(M:w.s=[93])(h:Ev e (.expr (d+1)) r (.ok (a,w::z))):Ev e (.operand d) (t::u::r) (.ok (one 3 t.at_ t.s [a],z)) :=
 zm h fun f h=>by
  rw[rd.eq_def];simp only;rw[ae aH,ae aH,ae aH,th b N];simp only;rw[ak (by simp only[aJ,getElem?_cons_zero,dS,O,if_true,C]),tail_cons,h];simp only[ba,aJ,getElem?_cons_zero,dS,l,if_true,M,tail_cons]
theorem Ev.ixX{t u:Tok}(hd:d<=60)(b:t.ai=2)(M:t.s.length<=12)(N:u.ai=3)(C:u.s=[91])(h:Ev e (.expr (d+1)) r (.error y)):Ev e (.operand d) (t::u::r) (.error y) :=
 zm h fun f h=>by
  rw[rd.eq_def];simp only;rw[ae aH,ae aH,ae aH,th b M];simp only;rw[ak (by simp only[aJ,getElem?_cons_zero,dS,N,if_true,C]),tail_cons,h]
theorem Ev.call{t u:Tok}{l:List T}{z:List Tok}(hd:d<=60)(b:t.ai=2)(N:t.s.length<=12)(M:u.ai=3)(C:u.s=[40])(h:Ea e (d+1) [] r (.ok (l,z))):Ev e (.operand d) (t::u::r) (.ok (one 4 t.at_ t.s l,z)):=by
 have⟨v,o⟩:=h;refine⟨v+1,fun f m=>?_⟩;obtain⟨f,rfl⟩:∃g,f=g+1:=⟨f-1,by omega⟩
 have G:aJ (u::r) 0=[40]:=by simp only[aJ,getElem?_cons_zero,dS,M,if_true,C]
 simp_all[rd.eq_def,ae,th,ak,tail_cons]
theorem Ev.Zf{t u:Tok}(hd:d<=60)(b:t.ai=2)(N:t.s.length<=12)(M:u.ai=3)(C:u.s=[40])(h:Ea e (d+1) [] r (.error y)):Ev e (.operand d) (t::u::r) (.error y):=by
 have⟨v,o⟩:=h;refine⟨v+1,fun f l=>?_⟩;obtain⟨f,rfl⟩:∃g,f=g+1:=⟨f-1,by omega⟩
 have G:aJ (u::r) 0=[40]:=by simp only[aJ,getElem?_cons_zero,dS,M,if_true,C]
 simp_all[rd.eq_def,ae,th,ak,tail_cons]
theorem Ea.nil{u:Tok}{W:List T}(M:u.ai=3)(C:u.s=[41]):Ea e d W (u::r) (.ok (W,r)):=⟨1,fun f l=>by
 obtain⟨f,rfl⟩:∃g,f=g+1:=⟨f-1,by omega⟩
 have G:aJ (u::r) 0=[41]:=by simp only[aJ,getElem?_cons_zero,dS,M,if_true,C]
 grind[rd.args]⟩
theorem Ea.first{a:T}{z:List Tok}{x:Rd (List T)}(G:aJ r 0≠[41])(h:Ev e (.expr d) r (.ok (a,z)))(b:Ea e d [a] z x):Ea e d [] r x:=by
 have⟨s,o⟩:=h;have⟨cL,q⟩:=b;refine⟨s+cL+1,fun f l=>?_⟩;obtain⟨f,rfl⟩:∃g,f=g+1:=⟨f-1,by omega⟩
 grind[rd.args]
theorem Ea.Wy{a:T}(G:aJ r 0≠[41])(h:Ev e (.expr d) r (.error y)):Ea e d [] r (.error y):=by
 have⟨s,o⟩:=h;refine⟨s+1,fun f l=>?_⟩;obtain⟨f,rfl⟩:∃g,f=g+1:=⟨f-1,by omega⟩
 grind[rd.args]
theorem Ea.more{u:Tok}{W:List T}{a:T}{z:List Tok}{x:Rd (List T)}(ha:W≠[])(M:u.ai=3)(C:u.s=[44])(h:Ev e (.expr d) r (.ok (a,z)))(b:Ea e d (W++[a]) z x):Ea e d W (u::r) x:=by
 have⟨v,o⟩:=h;have⟨cL,q⟩:=b;refine⟨v+cL+1,fun f l=>?_⟩;obtain⟨f,rfl⟩:∃g,f=g+1:=⟨f-1,by omega⟩
 have G:aJ (u::r) 0=[44]:=by simp only[aJ,getElem?_cons_zero,dS,M,if_true,C]
 rw[rd.args,ae zff,ae ha,ba,ak G];grind
theorem Ea.ZR{u:Tok}{W:List T}(ha:W≠[])(M:u.ai=3)(C:u.s=[44])(h:Ev e (.expr d) r (.error y)):Ea e d W (u::r) (.error y):=by
 have⟨v,o⟩:=h;refine⟨v+1,fun f l=>?_⟩;obtain⟨f,rfl⟩:∃g,f=g+1:=⟨f-1,by omega⟩
 have G:aJ (u::r) 0=[44]:=by simp only[aJ,getElem?_cons_zero,dS,M,if_true,C]
 rw[rd.args,ae zff,ae ha,ba,ak G];grind
structure Stop(r:List Tok)(k:Nat):Prop where
 a:aJ r 0≠[91]
 b:aJ r 0≠[40]
 c:∀j,k<j->aJ r 0 ∉ levels.getD j []
theorem Stop.mono{k':Nat}(h:Stop r k)(N:k<=k'):Stop r k':=⟨h.a,h.b,fun j Y=>h.c j aH⟩
theorem Ev.lift{m:Nat}(h:Ev e (.level m d) ts (.ok (t,r)))(j:m<=9)(G:Stop r k):∀n,m=k+1+n->Ev e (.loop k d t) r x->Ev e (.level k d) ts x:=by
 intro n
 induction n generalizing m with
 |zero=>grind[Ev.level]
 |succ n O =>
  intro i b;exact O (m:=k+1+n) (Ev.level aH zff (Ev.stop (G.c _ aH))) aH rfl b
theorem Ev.Tv{m:Nat}(h:Ev e (.level m d) ts (.error y))(j:m<=9):∀n,m=k+n->Ev e (.level k d) ts (.error y):=by
 intro n
 induction n generalizing m with
 |zero=>grind
 |succ n O=>grind[Ev.XR]
def Rt(e:Int)(k d:Nat)(ts rest:List Tok)(Q:T->Prop)(b:Bool):Prop :=
 (b=true->∃t,Q t/\(k<9->∀x,Ev e (.loop k d t) rest x->Ev e (.level k d) ts x)/\(k=9->Ev e (.level 9 d) ts (.ok (t,rest))))/\(b=false->∃G,Ev e (.level k d) ts (.error (9,G)))
def Ro(e:Int)(d:Nat)(ts rest:List Tok)(Q:T->Prop)(b:Bool):Prop :=
 (b=true->∃t,Q t/\Ev e (.operand d) ts (.ok (t,rest)))/\(b=false->∃G,Ev e (.operand d) ts (.error (9,G)))
def Rx(e:Int)(d:Nat)(ts rest:List Tok)(Q:T->Prop)(b:Bool):Prop :=
 (b=true->∃t,Q t/\Ev e (.expr d) ts (.ok (t,rest)))/\(b=false->∃G,Ev e (.expr d) ts (.error (9,G)))
def Ro.rt{rest:List Tok}{Q:T->Prop}{b:Bool}(h:Ro e d ts rest Q b)(N:k<=9)(M:Stop rest k):Rt e k d ts rest Q b:=by
 refine⟨fun i=>?_,fun i=>?_⟩
 ·have⟨t,o,c⟩:=h.1 i;exact⟨t,o,fun J x H=>Ev.lift (Ev.FY c) (aY _) M (8-k) aH H,fun _=>Ev.FY c⟩
 ·have⟨G,o⟩:=h.2 i;exact⟨G,Ev.Tv (Ev.FY o) (aY _) (9-k) aH⟩
theorem Rt.down{rest:List Tok}{Q:T->Prop}{b:Bool}{m:Nat}(h:Rt e m d ts rest Q b)(l:m<9)(O:k<=m)(H:Stop rest k):Rt e k d ts rest Q b:=by
 rcases Nat.lt_or_ge k m with N|w
 ·refine⟨fun i=>?_,fun i=>?_⟩
  ·have⟨t,o,j,_⟩:=h.1 i;have J:=j l _ (Ev.stop (H.c m N));exact⟨t,o,fun M x C=>Ev.lift J aH H (m-1-k) aH C,fun n=>by omega⟩
  ·have⟨G,o⟩:=h.2 i;exact⟨G,Ev.Tv o aH (m-k) aH⟩
 grind
theorem Rt.rx{rest:List Tok}{Q:T->Prop}{b:Bool}(h:Rt e 0 (d+1) ts rest Q b)(H:aJ rest 0 ∉ levels.getD 0 []):Rx e d ts rest Q (decide (d<=60)&&b):=by
 by_cases W:d<=60
 ·have:(decide (d<=60)&&b)=b:=by simp[W]
  rw[this];refine⟨fun i=>?_,fun i=>?_⟩
  ·have⟨t,o,c,_⟩:=h.1 i
   grind[Ev.expr,Ev.stop]
  ·have⟨G,o⟩:=h.2 i
   grind[Ev.expr]
 ·have:(decide (d<=60)&&b)=false:=by simp[W]
  rw[this];exact⟨fun i=>(by cases i),fun _=>⟨_,Ev.Zq aH⟩⟩
end
def Ev.TC{e:Int}{d:Nat}{ts:List Tok}{x:Rd T}(h:Ev e (.level 9 d) ts x):Ev e (.operand d) ts x:=by
 have⟨r,o⟩:=h;refine⟨r,fun f l=>?_⟩;have:=o (f+1) aH
 grind[rd]
def Ro.TC{e:Int}{d:Nat}{ts rest:List Tok}{Q:T->Prop}{b:Bool}(h:Rt e 9 d ts rest Q b):Ro e d ts rest Q b :=
 ⟨fun i=>by have⟨t,o,_,c⟩:=h.1 i;exact⟨t,o,(c rfl).TC⟩,fun i=>by have⟨G,o⟩:=h.2 i;exact⟨G,o.TC⟩⟩
theorem tq{t:Tok}{r:List Tok}{s:ab}(h:kf t=kS s):aJ (t::r) 0=s:=by
 simp only[kf,kS,Prod.mk.injEq]at h;simp only[aJ,getElem?_cons_zero,dS,h.1,if_true,h.2.2]
theorem CK{t:Tok}{r:List Tok}(h:t.ai≠3):aJ (t::r) 0=[]:=by
 simp only[aJ,getElem?_cons_zero,dS,ae h]
theorem Jw{j:Nat}(h:9<=j):levels.getD j []=[]:=by
 rw[List.getD_eq_getElem?_getD,getElem?_eq_none (by simpa[levels]using h)];rfl
def DX{r:List Tok}{s:ab}(h:aJ r 0=s)(G:s=[]\/s=[41]\/s=[93]\/s=[44]\/s=[59]\/s=[61]):Stop r 0:=by
 have d:∀j,j<9->∀s:ab,(s=[]\/s=[41]\/s=[93]\/s=[44]\/s=[59]\/s=[61])->s ∉ levels.getD j []:=by
  intro j Y s G
  have:∀j,j<9->∀s∈([[],[41],[93],[44],[59],[61]]:List ab),s ∉ levels.getD j []:=by decide
  grind
 refine⟨?_,?_,fun j _=>?_⟩
 ·grind
 ·grind
 grind[Nat.lt_or_ge,Jw]
def BE{r:List Tok}{s:ab}(h:aJ r 0=s)(G:s=[]\/s=[41]\/s=[93]\/s=[44]\/s=[59]\/s=[61]):aJ r 0 ∉ levels.getD 0 []:=by
 grind[levels]
def sw{s:ab}(h:eD s=true):fk s<9/\s∈levels.getD (fk s) []/\s≠[91]/\s≠[40]/\∀j,fk s<j->s ∉ levels.getD j []:=by
 have k:s∈levels.flatten:=by
  grind[eD,mh,List.mem_flatten]
 have R:∀s∈levels.flatten,fk s<9/\s∈levels.getD (fk s) []/\s≠[91]/\s≠[40]/\∀j,j<9->fk s<j->s ∉ levels.getD j []:=by decide
 grind[Nat.lt_or_ge,Jw]
def lK(a:E):Prop:=∀(e:Int)(k d:Nat)(s B:List Tok),k<=a.lv->a.ok=true->s.map kf=a.tk->Stop B k->Rt e k d (s++B) B (fun t=>er t=a.tree) (a.fit d)
def Y5(a:E):Prop:=∀(e:Int)(k d:Nat)(s B:List Tok),k<=9->a.ok=true->s.map kf=brk a.lv k a.tk->Stop B k->Rt e k d (s++B) B (fun t=>er t=a.tree) (IC a.lv k d a.fit)
section
variable{ts:List Tok}
theorem map_cons{k:K}{l:List K}(h:ts.map kf=k::l):∃t r,ts=t::r/\kf t=k/\r.map kf=l:=List.map_eq_cons_iff.1 h
theorem ei{l T:List K}(h:ts.map kf=l++T):∃a b,ts=a++b/\a.map kf=l/\b.map kf=T:=List.map_eq_append_iff.1 h
theorem jD{k:K}(h:ts.map kf=[k]):∃t,ts=[t]/\kf t=k:=by
 simp_all
end
theorem fj{t:Tok}{s:ab}(h:kf t=kS s):t.ai=3/\t.s=s:=by simp_all[kf,kS,Prod.mk.injEq]
def qL{t:Tok}{s:ab}(h:kf t=kN s):t.ai=2/\t.s=s:=by simp_all[kf,kN,Prod.mk.injEq]
def QZ{t:Tok}{n:Int}(h:kf t=kI n):t.ai=1/\t.n=n:=by simp_all[kf,kI,Prod.mk.injEq]
def lK.rx{a:E}(h:lK a){e:Int}{d:Nat}{ts rest:List Tok}{s:ab}(A:a.ok=true)(M:ts.map kf=a.tk)(G:aJ rest 0=s)(o:s=[]\/s=[41]\/s=[93]\/s=[44]\/s=[59]\/s=[61]) :
  Rx e d (ts++rest) rest (fun t=>er t=a.tree) (decide (d<=60)&&a.fit (d+1)):=(h e 0 (d+1) ts rest (bp _) A M (DX G o)).rx (BE G o)
def lK.good{a:E}(h:lK a):Y5 a:=by
 intro e k d v rest Q C M G;unfold brk at M;unfold IC
 by_cases N:a.lv<k
 ·rw[ak N]at M |-;obtain⟨t,r,rfl,o,b⟩:=map_cons M;obtain⟨A,B,rfl,J,O⟩:=ei b;obtain⟨u,rfl,j⟩:=jD O;have⟨o,H⟩:=fj o;have⟨j,F⟩:=fj j;have hx:=h.rx (e:=e) (d:=d+1) (rest:=u::rest) (s:=[41]) C J (by simp only[aJ,getElem?_cons_zero,dS,j,if_true,F]) zfg;refine Ro.rt ?_ Q G
  have l:t::(A++[u])++rest=t::(A++u::rest):=by simp
  rw[l]
  by_cases T:d<=60
  ·have:(decide (d<=60)&&decide (d+1<=60)&&a.fit (d+2))=(decide (d+1<=60)&&a.fit (d+1+1)):=by simp[T]
   rw[this];refine⟨fun i=>?_,fun i=>?_⟩
   ·have⟨m,R,W⟩:=hx.1 i
    grind[Ev.par]
   ·have⟨S,R⟩:=hx.2 i
    grind[Ev.abp]
  ·have:(decide (d<=60)&&decide (d+1<=60)&&a.fit (d+2))=false:=by simp[T]
   exact zet
 ·rw[ae N]at M |-;exact h e k d v rest aH C M G
def tl{e:Int}{d:Nat}{ts rest:List Tok}{Q:T->Prop}{b:Bool}(h:d<=60->Ro e d ts rest Q b):Ro e d ts rest Q (decide (d<=60)&&b):=by
 by_cases W:d<=60
 ·grind
 ·have:(decide (d<=60)&&b)=false:=by simp[W]
  exact zet
theorem fp{s:ab}(h:bm s=true):s.length<=12:=by
 simp_all[Go.Sp.bm,aI,decide_eq_true_eq]
def Qy(n:Int):lK (.num n):=by
 intro e k d ts rest N A M G;obtain⟨t,rfl,o⟩:=jD M;have⟨o,c⟩:=QZ o;refine Ro.rt ?_ N G
 have:=tl (e:=e) (d:=d) (ts:=[t]++rest) (rest:=rest) (Q:=fun t=>er t=(E.num n).tree) (b:=true) fun T=>⟨fun _=>⟨_,?_,Ev.num T o⟩,fun h=>by cases h⟩
 ·grind[E.fit]
 ·show er _=_;rw[er,E.tree,c];rfl
def MQ(s:ab):lK (.name s):=by
 intro e k d ts rest N A M G;obtain⟨t,rfl,o⟩:=jD M;have⟨o,c⟩:=qL o;simp only[E.ok]at A;refine Ro.rt ?_ N G
 have:=tl (e:=e) (d:=d) (ts:=[t]++rest) (rest:=rest) (Q:=fun t=>er t=(E.name s).tree) (b:=true) fun T=>⟨fun _=>⟨_,?_,Ev.name T o (by grind[fp]) G.a G.b⟩,fun h=>by cases h⟩
 ·grind[E.fit]
 ·show er _=_;rw[fa,E.tree,c];rfl
def Uk(s:ab){a:E}(C:lK a):lK (.at_ s a):=by
 intro e k d v rest S M N X;simp only[E.ok,aI]at M;rw[E.tk]at N;obtain⟨t,r,rfl,o,b⟩:=map_cons N;obtain⟨u,r,rfl,G,Q⟩:=map_cons b;obtain⟨A,B,rfl,j,n⟩:=ei Q;obtain⟨w,rfl,O⟩:=jD n;have⟨o,F⟩:=qL o;have⟨G,J⟩:=fj G;have⟨O,H⟩:=fj O
 have W:t.s.length<=12:=by grind[fp]
 have hx:=C.rx (e:=e) (d:=d+1) (rest:=w::rest) (s:=[93]) M.2 j (by simp only[aJ,getElem?_cons_zero,dS,O,if_true,H]) zfg;refine Ro.rt ?_ S X
 have l:t::u::(A++[w])++rest=t::u::(A++w::rest):=by simp
 rw[l,E.fit,Bool.and_assoc]
 refine tl fun T=>⟨fun i=>?_,fun i=>?_⟩
 ·have⟨m,R,Y⟩:=hx.1 i;exact⟨_,by show er _=_;rw[fa,bl,R,F,E.tree];rfl,Ev.ix T o W G J O H Y⟩
 ·have⟨Z,R⟩:=hx.2 i
  grind[Ev.ixX]
def Um(s:ab){a:E}(C:lK a):lK (.un s a):=by
 intro e k d u B N A M H;simp only[E.ok,aI,Bool.or_eq_true,beq_iff_eq]at A;rw[E.tk]at M;obtain⟨t,r,rfl,o,b⟩:=map_cons M;have⟨o,F⟩:=fj o;have G:k<=9:=N;have X:=Ro.TC (C.good e 9 (d+1) r B (aY _) A.2 b (H.mono G));refine Ro.rt ?_ N H
 have j:t.s=[45]\/t.s=[33]\/t.s=[126]:=by grind
 rw[E.fit]
 refine tl fun T=>⟨fun i=>?_,fun i=>?_⟩
 ·have⟨l,R,O⟩:=X.1 i;exact⟨_,by show er _=_;rw[fa,bl,R,F,E.tree];rfl,Ev.un T o j O⟩
 ·have⟨J,R⟩:=X.2 i
  grind[Ev.unX]
def Qv(s:ab){a b:E}(O:lK a)(Q:lK b):lK (.bin s a b):=by
 intro e k d ts i Y v J H;simp only[E.ok,aI]at v;have⟨M,l2,l3,l4,l5⟩:=sw v.1.1;rw[E.tk]at J;obtain⟨A,B,rfl,S,T⟩:=ei J;obtain⟨t,r,rfl,u,W⟩:=map_cons T;have⟨u,l⟩:=fj u;have o:k<=fk s:=Y;have q:=H.mono o;refine Rt.down (m:=fk s) ?_ M o H
 have Z:aJ (t::(r++i)) 0=s:=by simp only[aJ,getElem?_cons_zero,dS,u,if_true,l]
 have G:=O.good e (fk s) d A (t::(r++i)) aH v.1.2 S ⟨by grind,by grind,fun j hj=>by grind⟩;have R:=Q.good e (fk s+1) d r i aH v.2 W (q.mono aH)
 have X:A++t::r++i=A++t::(r++i):=by simp
 rw[X,E.fit]
 change Rt e (fk s) d _ i _ (IC a.lv (fk s) d a.fit&&IC b.lv (fk s+1) d b.fit)
 have F:t.s∈levels.getD (fk s) []:=by grind
 cases n:IC a.lv (fk s) d a.fit with
 |false =>
  refine⟨fun z=>(by cases z),fun _=>G.2 n⟩
 |true =>
  have⟨ta,k1,k2,_⟩:=G.1 n
  cases C:IC b.lv (fk s+1) d b.fit with
  |false =>
   grind[Ev.goX,Rt,fk,er,E.tree]
  |true =>
   refine⟨fun _=>?_,fun z=>(by cases z)⟩;have⟨N,k3,k4,k5⟩:=R.1 C
   have k6:Ev e (.level (fk s+1) d) (r++i) (.ok (N,i)):=by
    rcases Nat.lt_or_ge (fk s+1) 9 with w|w
    ·exact k4 w _ (Ev.stop (q.c _ aH))
    grind
   exact⟨one 6 t.at_ t.s [ta,N],by show er _=_;rw[fa,bl,bl,bl,k1,k3,l,E.tree],fun _ x hx=>k2 M x (Ev.go u F k6 hx),fun w=>by omega⟩
def SN(k:K):Prop:=k.1=1\/k.1=2\/(k.1=3/\(k.2.2=[45]\/k.2.2=[33]\/k.2.2=[126]\/k.2.2=[40]))
theorem E.head:∀(a:E),a.ok=true->∃k r,a.tk=k::r/\SN k
 |.num n,_=>⟨_,_,rfl,.inl rfl⟩
 |.name s,_=>⟨_,_,rfl,.inr (.inl rfl)⟩
 |.at_ s a,_=>⟨_,_,rfl,.inr (.inl rfl)⟩
 |.call s l,_=>⟨_,_,rfl,.inr (.inl rfl)⟩
 |.un s a,h=>⟨_,_,rfl,.inr (.inr ⟨rfl,by simp only[E.ok,aI,Bool.or_eq_true,beq_iff_eq]at h;grind⟩)⟩
 |.bin s a b,h=>by
  simp only[E.ok,aI]at h;have⟨k,r,o,c⟩:=E.head a h.1.2;rw[E.tk,brk];split
  ·exact⟨_,_,rfl,.inr (.inr ⟨rfl,by simp⟩)⟩
  grind
theorem zX{t:Tok}{r:List Tok}(h:SN (kf t)):aJ (t::r) 0=[]\/aJ (t::r) 0=[45]\/aJ (t::r) 0=[33]\/aJ (t::r) 0=[126]\/aJ (t::r) 0=[40]:=by
 rcases h with h|h|⟨h,e⟩
 ·grind[CK,kf]
 ·grind[CK,kf]
 ·right
  have:aJ (t::r) 0=t.s:=by simp only[kf]at h;simp only[aJ,getElem?_cons_zero,dS,h,if_true]
  rw[this];exact e
def yt(l:List E):Prop:=∀(e:Int)(d:Nat)(W:List T)(t B:List Tok)(u:Tok),E.cJ l=true->W≠[]->t.map kf=E.qX l->u.ai=3->u.s=[41] ->
 (E.fits l d=true->∃i,bl i=E.aE l/\Ea e d W (t++u::B) (.ok (W++i,B)))/\(E.fits l d=false->∃G,Ea e d W (t++u::B) (.error (9,G)))
def MN:yt []:=by
 intro e d T s B u _ v M N C
 have:s=[]:=by simp_all[E.qX]
 subst this;exact⟨fun _=>⟨[],rfl,by grind[Ea.nil]⟩,fun h=>by simp[E.fits]at h⟩
def DZ{l:List E}{ts rest:List Tok}{u:Tok}(N:ts.map kf=E.qX l)(M:u.ai=3)(C:u.s=[41]):∃s,aJ (ts++u::rest) 0=s/\(s=[]\/s=[41]\/s=[93]\/s=[44]\/s=[59]\/s=[61]):=by
 cases l with
 |nil =>
  have:ts=[]:=by simp_all[E.qX]
  subst this;exact⟨[41],by simp only[List.nil_append,aJ,getElem?_cons_zero,dS,M,if_true,C],by simp⟩
 |cons a l =>
  grind[E.qX,map_cons,tq]
def KZ{a:E}{l:List E}(z:lK a)(k:yt l):yt (a::l):=by
 intro e d T n rest u G Q M N C;simp only[E.cJ,aI]at G;rw[E.qX]at M;obtain⟨t,r,rfl,o,b⟩:=map_cons M;obtain⟨A,B,rfl,O,H⟩:=ei b;have⟨o,F⟩:=fj o;have⟨s,w,v⟩:=DZ (rest:=rest) H N C;have hx:=z.rx (e:=e) (d:=d) (rest:=B++u::rest) (s:=s) G.1 O w v
 have j:t::(A++B)++u::rest=t::(A++(B++u::rest)):=by simp
 rw[j,E.fits]
 cases c:decide (d<=60)&&a.fit (d+1)with
 |false =>
  refine⟨fun i=>(by simp at i),fun _=>?_⟩;have⟨X,S⟩:=hx.2 c
  grind[Ea.ZR]
 |true =>
  have⟨J,S,W⟩:=hx.1 c;have R:=k e d (T++[J]) B rest u G.2 zfg H N C;refine⟨fun i=>?_,fun i=>?_⟩
  ·have⟨m,Y,Z⟩:=R.1 zff;exact⟨J::m,by grind[bl,E.aE],Ea.more Q o F W zff⟩
  grind[Ea.more]
def MP(s:ab){l:List E}(Z:∀a r,l=a::r->lK a/\yt r):lK (.call s l):=by
 intro e k d ts rest hk S W hs;simp only[E.ok,aI]at S;rw[E.tk]at W;obtain⟨t,r,rfl,G,h2⟩:=map_cons W;obtain⟨u,r,rfl,c,C⟩:=map_cons h2;obtain⟨A,B,rfl,R,h6⟩:=ei C;obtain⟨w,rfl,o⟩:=jD h6;have⟨G,H⟩:=qL G;have⟨c,J⟩:=fj c;have⟨o,i⟩:=fj o
 have hl:t.s.length<=12:=by grind[fp]
 refine Ro.rt ?_ hk hs
 have he:t::u::(A++[w])++rest=t::u::(A++w::rest):=by simp
 rw[he,E.fit]
 refine tl fun hd=>?_
 have Q:(E.fits l (d+1)=true->∃z,bl z=E.aE l/\Ea e (d+1) [] (A++w::rest) (.ok (z,rest)))/\(E.fits l (d+1)=false->∃j,Ea e (d+1) [] (A++w::rest) (.error (9,j))):=by
  cases l with
  |nil =>
   have:A=[]:=by simp_all[E.nT]
   subst this;exact⟨fun _=>⟨[],rfl,Ea.nil o i⟩,fun h=>by simp[E.fits]at h⟩
  |cons a l =>
   have⟨Y,Cl⟩:=Z a l rfl;have b:=S.2;simp only[E.cJ,aI]at b;rw[E.nT]at R;obtain⟨A,B,rfl,c,C⟩:=ei R;have⟨s,N,O⟩:=DZ (rest:=rest) C o i;have hx:=Y.rx (e:=e) (d:=d+1) (rest:=B++w::rest) (s:=s) b.1 c N O;rw[dP]
   have v:aJ (A++(B++w::rest)) 0≠[41]:=by
    have⟨kk,rr,n,F⟩:=E.head a b.1;rw[n]at c;obtain⟨t0,r0,rfl,k3,_⟩:=map_cons c
    grind[zX]
   rw[E.fits]
   cases q:decide (d+1<=60)&&a.fit (d+1+1)with
   |false =>
    refine⟨fun m=>(by simp at m),fun _=>?_⟩;have⟨j,n⟩:=hx.2 q;exact⟨j,Ea.Wy (a:=T.mk ⟨0,0,0,[],[]⟩ []) v n⟩
   |true =>
    have⟨X,n,F⟩:=hx.1 q;have M:=Cl e (d+1) [X] B rest w b.2 zfg C o i;refine⟨fun m=>?_,fun m=>?_⟩
    ·have⟨z,k3,k4⟩:=M.1 zff;exact⟨X::z,by grind[bl,E.aE],Ea.first v F k4⟩
    grind[Ea.first]
 refine⟨fun m=>?_,fun m=>?_⟩
 ·have⟨z,n,F⟩:=Q.1 m;exact⟨_,by show er _=_;rw[fa,n,H,E.tree],Ev.call hd G hl c J F⟩
 grind[Ev.Zf]
mutual
def core:∀(a:E),lK a
 |.num n=>Qy n
 |.name s=>MQ s
 |.at_ s a=>Uk s (core a)
 |.call s l=>MP s (Zg l)
 |.un s a=>Um s (core a)
 |.bin s a b=>Qv s (core a) (core b)
def Zg:∀(l:List E),∀a r,l=a::r->lK a/\yt r
 |[]=>fun a r h=>by cases h
 |a::r=>fun W z h=>by cases h;exact⟨core a,MO r⟩
def MO:∀(l:List E),yt l
 |[]=>MN
 |a::l=>KZ (core a) (MO l)
end
inductive S where
 |set (s:ab) (a:E)
 |put (s:ab) (a b:E)
 |if1 (c:E) (b:List S)
 |if2 (c:E) (b b2:List S)
 |while_ (c:E) (b:List S)
 |ret (a:E)
 |do_ (a:E)
 |var (s:ab) (a:E)
mutual
def S.tk:S->List K
 |.set s a=>kN s::kS [61]::(a.tk++[kS [59]])
 |.put s a b=>kN s::kS [91]::(a.tk++kS [93]::kS [61]::(b.tk++[kS [59]]))
 |.if1 c b=>kS gy::kS [40]::(c.tk++kS [41]::kS [123]::(S.nT b++[kS [125]]))
 |.if2 c b m=>kS gy::kS [40]::(c.tk++kS [41]::kS [123]::(S.nT b++kS [125]::kS iH::kS [123]::(S.nT m++[kS [125]])))
 |.while_ c b=>kS gP::kS [40]::(c.tk++kS [41]::kS [123]::(S.nT b++[kS [125]]))
 |.ret a=>kS gW::(a.tk++[kS [59]])
 |.do_ a=>a.tk++[kS [59]]
 |.var s a=>kS l7::kN s::kS [61]::(a.tk++[kS [59]])
def S.nT:List S->List K
 |[]=>[]
 |a::l=>a.tk++S.nT l
end
mutual
def S.tree:S->T
 |.set s a=>.mk ⟨7,0,0,s,[]⟩ [a.tree]
 |.put s a b=>.mk ⟨8,0,0,s,[]⟩ [a.tree,b.tree]
 |.if1 c b=>.mk ⟨9,0,0,[],[]⟩ [c.tree,.mk ⟨14,0,0,[],[]⟩ (S.aE b)]
 |.if2 c b m=>.mk ⟨9,0,0,[],[]⟩ [c.tree,.mk ⟨14,0,0,[],[]⟩ (S.aE b),.mk ⟨14,0,0,[],[]⟩ (S.aE m)]
 |.while_ c b=>.mk ⟨10,0,0,[],[]⟩ [c.tree,.mk ⟨14,0,0,[],[]⟩ (S.aE b)]
 |.ret a=>.mk ⟨11,0,0,[],[]⟩ [a.tree]
 |.do_ a=>.mk ⟨12,0,0,[],[]⟩ [a.tree]
 |.var s a=>.mk ⟨13,0,0,s,[]⟩ [a.tree]
def S.aE:List S->List T
 |[]=>[]
 |a::l=>a.tree::S.aE l
end
def po(a:E)(d:Nat):Bool:=decide (d<=60)&&a.fit (d+1)
mutual
def S.fit:S->Nat->Bool
 |.set _ a,d=>decide (d<=60)&&po a (d+1)
 |.put s a b,d=>decide (d<=60)&&(po (.at_ s a) (d+1)&&po b (d+1))
 |.if1 c b,d=>decide (d<=60)&&(po c (d+1)&&(decide (d+1<=60)&&S.fits b (d+2)))
 |.if2 c b m,d=>decide (d<=60)&&(po c (d+1)&&((decide (d+1<=60)&&S.fits b (d+2))&&(decide (d+1<=60)&&S.fits m (d+2))))
 |.while_ c b,d=>decide (d<=60)&&(po c (d+1)&&(decide (d+1<=60)&&S.fits b (d+2)))
 |.ret a,d=>decide (d<=60)&&po a (d+1)
 |.do_ a,d=>decide (d<=60)&&po a (d+1)
 |.var _ a,d=>decide (d<=60)&&po a (d+1)
def S.fits:List S->Nat->Bool
 |[],_=>true
 |a::l,d=>a.fit d&&S.fits l d
end
mutual
def S.ok:S->Bool
 |.set s a=>bm s&&a.ok
 |.put s a b=>bm s&&(a.ok&&b.ok)
 |.if1 c b=>c.ok&&S.cJ b
 |.if2 c b m=>c.ok&&(S.cJ b&&S.cJ m)
 |.while_ c b=>c.ok&&S.cJ b
 |.ret a=>a.ok
 |.do_ a=>a.ok
 |.var s a=>bm s&&a.ok
def S.cJ:List S->Bool
 |[]=>true
 |a::l=>a.ok&&S.cJ l
end
def Es(e:Int)(j:tA)(ts:List Tok)(x:Rd T):Prop:=∃r,∀f,r<=f->rs e f j ts=x
def Eb(e:Int)(d:Nat)(W:List T)(ts:List Tok)(x:Rd (List T)):Prop:=∃r,∀f,r<=f->rs.body e f d W ts=x
def Ev.ex{e:Int}{d:Nat}{ts:List Tok}{x:Rd T}(h:Ev e (.expr d) ts x):Go.Xp.expr e d ts=x:=by
 have⟨r,o⟩:=h;rw[<-Cg (e:=e) (d:=d) (ts:=ts) (f:=r+(20*ts.length+12)) aH]
 grind
def Xx(e:Int)(d:Nat)(ts rest:List Tok)(Q:T->Prop)(b:Bool):Prop :=
 (b=true->∃t,Q t/\expr e d ts=.ok (t,rest))/\(b=false->∃G,expr e d ts=.error (9,G))
def Rx.xx{e:Int}{d:Nat}{ts rest:List Tok}{Q:T->Prop}{b:Bool}(h:Rx e d ts rest Q b):Xx e d ts rest Q b :=
 ⟨fun i=>by have⟨t,o,c⟩:=h.1 i;exact⟨t,o,c.ex⟩,fun i=>by have⟨G,o⟩:=h.2 i;exact⟨G,o.ex⟩⟩
def E.xx{a:E}{e:Int}{d:Nat}{ts rest:List Tok}{s:ab}(A:a.ok=true)(M:ts.map kf=a.tk)(G:aJ rest 0=s)(o:s=[]\/s=[41]\/s=[93]\/s=[44]\/s=[59]\/s=[61]) :
  Xx e d (ts++rest) rest (fun t=>er t=a.tree) (po a d):=((core a).rx A M G o).xx
def Sx(e:Int)(j:tA)(ts rest:List Tok)(Q:T->Prop)(b:Bool):Prop :=
 (b=true->∃t,Q t/\Es e j ts (.ok (t,rest)))/\(b=false->∃G,Es e j ts (.error (9,G)))
section
variable{e:Int}{d:Nat}{ts rest:List Tok}{Q:T->Prop}{b:Bool}
def sL{j:tA}{x:Rd T}(G:∀f,rs e (f+1) j ts=x):Es e j ts x :=
 ⟨1,fun f l=>by obtain⟨f,rfl⟩:∃g,f=g+1:=⟨f-1,by omega⟩;exact G f⟩
theorem qB(h:d<=60->Sx e (.stmt d) ts rest Q b):Sx e (.stmt d) ts rest Q (decide (d<=60)&&b):=by
 by_cases T:d<=60
 ·grind
 ·have:(decide (d<=60)&&b)=false:=by simp[T]
  exact zdw
theorem rE{u:Tok}{s:ab}(M:u.ai=3)(C:u.s=s):ba e s (u::rest)=.ok rest:=by
 have G:aJ (u::rest) 0=s:=by simp only[aJ,getElem?_cons_zero,dS,M,if_true,C]
 grind[ba]
def ud{u:Tok}{s:ab}(M:u.ai=3)(C:u.s=s):aJ (u::rest) 0=s:=by simp only[aJ,getElem?_cons_zero,dS,M,if_true,C]
theorem vC{a:E}{u w:Tok}{A:List Tok}{Y R:ab}(B:a.ok=true)(N:A.map kf=a.tk)(O:u.ai=3)(C:u.s=Y)(l:w.ai=3)(M:w.s=R)(v:R=[]\/R=[41]\/R=[93]\/R=[44]\/R=[59]\/R=[61]) :
  (po a d=true->∃t,er t=a.tree/\inner e d Y R (u::(A++w::rest))=.ok (t,rest))/\(po a d=false->∃G,inner e d Y R (u::(A++w::rest))=.error (9,G)):=by
 have hx:=E.xx (e:=e) (d:=d) (rest:=w::rest) B N (ud l M) v;unfold inner;rw[rE O C];refine⟨fun i=>?_,fun i=>?_⟩
 ·have⟨t,o,c⟩:=hx.1 i
  grind[rE]
 ·have⟨G,o⟩:=hx.2 i
  grind
theorem J7{a:E}{v u w:Tok}{A:List Tok}(B:a.ok=true)(j:v.ai=2)(F:v.s.length<=12)(N:A.map kf=a.tk)(O:u.ai=3)(C:u.s=[61])(l:w.ai=3)(M:w.s=[59]) :
  (po a d=true->∃t,er t=a.tree/\mb e d (v::u::(A++w::rest))=.ok ((v.s,t),rest))/\(po a d=false->∃G,mb e d (v::u::(A++w::rest))=.error (9,G)):=by
 have i:=vC (e:=e) (d:=d) (rest:=rest) B N O C l M zfg;unfold mb
 grind[th]
theorem jT{t:Tok}{s:ab}(h:t.ai=2)(G:s≠[]):aJ (t::rest) 0≠s:=by grind[CK]
def rU(s:S):Prop:=∀(e:Int)(d:Nat)(ts rest:List Tok),s.ok=true->ts.map kf=s.tk->aJ rest 0≠iH->Sx e (.stmt d) (ts++rest) rest (fun t=>er t=s.tree) (s.fit d)
theorem QB(s:ab)(a:E):rU (.set s a):=by
 intro e d ts rest M R _;simp only[S.ok,aI]at M;rw[S.tk]at R;obtain⟨t,r,rfl,o,c⟩:=map_cons R;obtain⟨u,r,rfl,G,W⟩:=map_cons c;obtain⟨A,B,rfl,j,n⟩:=ei W;obtain⟨w,rfl,O⟩:=jD n;have⟨o,F⟩:=qL o;have⟨G,C⟩:=fj G;have⟨O,H⟩:=fj O
 have k:t::u::(A++[w])++rest=t::u::(A++w::rest):=by simp
 have hx:=J7 (e:=e) (d:=d+1) (rest:=rest) M.2 o (by grind[fp]) j G C O H;rw[k,S.fit];have N:t.ai=2/\aJ (t::u::(A++w::rest)) 1=[61]:=⟨o,by simp only[aJ,List.getElem?_cons_succ,getElem?_cons_zero,dS,G,if_true,C]⟩
 refine qB fun X=>⟨fun i=>?_,fun i=>?_⟩
 ·have⟨l,T,Y⟩:=hx.1 i;refine⟨one 7 t.at_ t.s [l],by show er _=_;rw[fa,bl,T,F,S.tree];rfl,sL fun f=>?_⟩;refine zdr ?_;rw[ae (jT o aC),ae (fun h=>h.elim (jT o aC) (jT o aC)),ae (jT o aC)];simp only[simple];grind
 ·have⟨J,T⟩:=hx.2 i;refine⟨J,sL fun f=>?_⟩;refine zdr ?_;rw[ae (jT o aC),ae (fun h=>h.elim (jT o aC) (jT o aC)),ae (jT o aC)]
  grind[simple]
theorem QC(s:ab)(a:E):rU (.var s a):=by
 intro e d ts rest N M _;simp only[S.ok,aI]at N;rw[S.tk]at M;obtain⟨v,r,rfl,o,M⟩:=map_cons M;obtain⟨t,r,rfl,q,c⟩:=map_cons M;obtain⟨u,r,rfl,G,T⟩:=map_cons c;obtain⟨A,B,rfl,j,n⟩:=ei T;obtain⟨w,rfl,O⟩:=jD n;have⟨o,z⟩:=fj o;have⟨q,C⟩:=qL q;have⟨G,F⟩:=fj G;have⟨O,H⟩:=fj O
 have k:v::t::u::(A++[w])++rest=v::t::u::(A++w::rest):=by simp
 have hx:=J7 (e:=e) (d:=d+1) (rest:=rest) N.2 q (by grind[fp]) j G F O H;rw[k,S.fit]
 refine qB fun X=>⟨fun i=>?_,fun i=>?_⟩
 ·have⟨l,R,W⟩:=hx.1 i;refine⟨one 13 v.at_ t.s [l],by show er _=_;rw[fa,bl,R,C,S.tree];rfl,sL fun f=>?_⟩;refine zdr ?_;rw[ak (ud o z),tail_cons,W];rfl
 ·have⟨J,R⟩:=hx.2 i;refine⟨J,sL fun f=>?_⟩;rw[rs,ae aH];simp_all[ak,ud,tail_cons]
def QA(a:E):rU (.ret a):=by
 intro e d ts rest C M _;simp only[S.ok]at C;rw[S.tk]at M;obtain⟨v,r,rfl,o,F⟩:=map_cons M;obtain⟨A,B,rfl,j,n⟩:=ei F;obtain⟨w,rfl,O⟩:=jD n;have⟨o,s⟩:=fj o;have⟨O,H⟩:=fj O
 have k:v::(A++[w])++rest=v::(A++w::rest):=by simp
 have hx:=E.xx (e:=e) (d:=d+1) (rest:=w::rest) C j (ud O H) zfg;rw[k,S.fit];have G:=ud (rest:=A++w::rest) o s
 refine qB fun W=>⟨fun i=>?_,fun i=>?_⟩
 ·have⟨l,R,T⟩:=hx.1 i;refine⟨one 11 v.at_ [] [l],by show er _=_;rw[fa,bl,R,S.tree];rfl,sL fun f=>?_⟩;refine zdr ?_;rw[ae zfD,ae zfD,ak G,tail_cons,T];simp only;rw[rE O H];rfl
 ·have⟨J,R⟩:=hx.2 i;refine⟨J,sL fun f=>?_⟩;refine zdr ?_;rw[ae zfD,ae zfD,ak G,tail_cons,R]
def oB(l:List K):Prop:=∀k∈l,k.1=3->k.2.2≠[61]
theorem w6{l T:List K}:oB (l++T)↔oB l/\oB T:=by
 unfold oB;constructor
 ·intro h;exact⟨fun k N=>h k (List.mem_append_left _ N),fun k N=>h k (List.mem_append_right _ N)⟩
 grind
def l8{a:K}{l:List K}:oB (a::l)↔(a.1=3->a.2.2≠[61])/\oB l:=by
 simp[oB,K,ab]
def Gb:oB []:=fun k N=>by cases N
theorem xX{lv k:Nat}{x:List K}(h:oB x):oB (brk lv k x):=by
 grind[oB,brk]
mutual
def E.yT:∀(a:E),a.ok=true->oB a.tk
 |.num n,_=>by simp[oB,tk]
 |.name s,_=>by simp[oB,tk]
 |.at_ s a,h=>by
  simp only[E.ok,aI]at h;rw[E.tk,l8,l8,w6,l8];exact⟨fun h=>zfn,fun _=>aC,E.yT a h.2,fun _=>aC,Gb⟩
 |.call s l,h=>by
  simp only[E.ok,aI]at h;rw[E.tk,l8,l8,w6,l8];exact⟨fun h=>zfn,fun _=>aC,(E.OR l h.2).1,fun _=>aC,Gb⟩
 |.un s a,h=>by
  simp only[E.ok,aI,Bool.or_eq_true,beq_iff_eq]at h;rw[E.tk,l8];exact⟨fun _=>(by rcases h.1 with(h|h)|h<;>(simp only[kS,h];decide)),xX (E.yT a h.2)⟩
 |.bin s a b,h=>by
  simp only[E.ok,aI]at h;rw[E.tk,w6,l8];exact⟨xX (E.yT a h.1.2),fun _ o=>(by simp only[kS]at o;rw[o]at h;exact absurd h.1.1 aC),xX (E.yT b h.2)⟩
def E.OR:∀(l:List E),E.cJ l=true->oB (E.nT l)/\oB (E.qX l)
 |[],_=>by simp[oB,nT,qX]
 |a::l,h=>by
  simp only[E.cJ,aI]at h
  simp_all[E.yT,E.OR,E.nT,E.qX,w6,l8]
end
theorem LW{ts:List Tok}{k:Nat}{s:ab}(h:∀t,ts[k]?=some t->t.ai=3->t.s≠s)(G:s≠[]):aJ ts k≠s:=by
 unfold aJ
 grind[dS]
theorem HK{a:E}{A:List Tok}{w:Tok}(B:a.ok=true)(k:A.map kf=a.tk)(l:w.s≠[61]):aJ (A++w::rest) 1≠[61]:=by
 have⟨u,r0,W,_⟩:=E.head a B;refine LW (fun t M G i=>?_) aC
 have c:1<=A.length:=by
  grind
 rw[getElem?_append]at M;split at M
 ·have j:kf t∈a.tk:=by grind
  exact E.yT a B _ j G i
 grind
theorem Ul(a:E):rU (.do_ a):=by
 intro e d ts rest C M _;simp only[S.ok]at C;rw[S.tk]at M;obtain⟨A,B,rfl,j,n⟩:=ei M;obtain⟨w,rfl,O⟩:=jD n;have⟨O,H⟩:=fj O
 have l:A++[w]++rest=A++w::rest:=by simp
 have hx:=E.xx (e:=e) (d:=d+1) (rest:=w::rest) C j (ud O H) zfg;have u:=HK (rest:=rest) (w:=w) C j zff;have⟨v,r0,W,m⟩:=E.head a C;obtain⟨t,r,rfl,T,_⟩:=map_cons (by rw[<-W];exact j);rw[l,S.fit];rw[List.cons_append]at hx u |-;have c:=zX (r:=r++w::rest) (by rw[T];exact m)
 have F:¬(t.ai=2/\aJ (t::(r++w::rest)) 1=[61]):=fun h=>u h.2
 have i:∀s:ab,s=l7\/s=gy\/s=gP\/s=gW->aJ (t::(r++w::rest)) 0≠s:=by
  intro s J;rcases c with h|h|h|h|h<;>rcases J with rfl|rfl|rfl|rfl<;>(rw[h];decide)
 refine qB fun X=>⟨fun k=>?_,fun k=>?_⟩
 ·have⟨o,R,Y⟩:=hx.1 k;refine⟨one 12 t.at_ [] [o],by show er _=_;rw[fa,bl,R,S.tree];rfl,sL fun f=>?_⟩;refine zeg ?_;simp only[simple];simp_all[ae,ud,rE]
 ·have⟨G,R⟩:=hx.2 k;refine⟨G,sL fun f=>?_⟩;refine zeg ?_
  grind[simple]
theorem aao{s:ab}{a:E}{t u w:Tok}{A:List Tok}{sg:ab}(hn:bm s=true)(B:a.ok=true)(r:t.ai=2)(C:t.s=s)(J:u.ai=3)(F:u.s=[91])(j:A.map kf=a.tk)(O:w.ai=3)(H:w.s=[93])(G:aJ rest 0=sg)(o:sg=[]\/sg=[41]\/sg=[93]\/sg=[44]\/sg=[59]\/sg=[61]) :
  Xx e d (t::u::(A++w::rest)) rest (fun x=>er x=(E.at_ s a).tree/\x.n.ai=3/\x.n.at_=t.at_/\x.n.s=s/\∃y,x.aw=[y]/\er y=a.tree) (po (.at_ s a) d):=by
 have M:t.s.length<=12:=by grind[fp]
 have hx:=(core a).rx (e:=e) (d:=d+1+1) (rest:=w::rest) (s:=[93]) B j (ud O H) zfg
 have q:Ro e (d+1) (t::u::(A++w::rest)) rest (fun x=>er x=(E.at_ s a).tree/\x.n.ai=3/\x.n.at_=t.at_/\x.n.s=s/\∃y,x.aw=[y]/\er y=a.tree) ((E.at_ s a).fit (d+1)):=by
  rw[E.fit,Bool.and_assoc]
  refine tl fun T=>⟨fun i=>?_,fun i=>?_⟩
  ·have⟨k,R,S⟩:=hx.1 i;exact⟨one 3 t.at_ t.s [k],⟨by rw[fa,bl,R,C,E.tree];rfl,rfl,rfl,C,_,rfl,R⟩,Ev.ix T r M J F O H S⟩
  ·have⟨N,R⟩:=hx.2 i
   grind[Ev.ixX]
 exact((q.rt (bp 9) (DX G o)).rx (BE G o)).xx
theorem Qz(s:ab)(a b:E):rU (.put s a b):=by
 intro e d ts rest F Z _;simp only[S.ok,aI]at F;rw[S.tk]at Z;obtain⟨t,r,rfl,n,h2⟩:=map_cons Z;obtain⟨u,r,rfl,N,h4⟩:=map_cons h2;obtain⟨A,B,rfl,h5,h6⟩:=ei h4;obtain⟨w,r,rfl,R,h8⟩:=map_cons h6;obtain⟨q,r,rfl,o,H⟩:=map_cons h8;obtain⟨B,C,rfl,J,M⟩:=ei H;obtain⟨z,rfl,i⟩:=jD M;have⟨n,G⟩:=qL n;have⟨N,O⟩:=fj N;have⟨R,T⟩:=fj R;have⟨o,l⟩:=fj o;have⟨i,k⟩:=fj i
 have he:t::u::(A++w::q::(B++[z]))++rest=t::u::(A++w::(q::(B++z::rest))):=by simp
 have X:=ud (rest:=B++z::rest) o l;have hx:=aao (e:=e) (d:=d+1) (rest:=q::(B++z::rest)) F.1 F.2.1 n G N O h5 R T X zfg;have hv:=vC (e:=e) (d:=d+1) (rest:=rest) F.2.2 J o l i k zfg;rw[he,S.fit]
 have Y:¬(t.ai=2/\aJ (t::u::(A++w::(q::(B++z::rest)))) 1=[61]):=fun h=>by
  simp_all[aJ,List.getElem?_cons_succ,getElem?_cons_zero,dS,if_true]
 have c:∀s:ab,s≠[]->aJ (t::u::(A++w::(q::(B++z::rest)))) 0≠s:=fun s hs=>jT n hs
 refine qB fun hd=>?_
 cases m:po (.at_ s a) (d+1)with
 |false =>
  refine⟨fun W=>(by cases W),fun _=>?_⟩;have⟨j,k1⟩:=hx.2 m;refine⟨j,sL fun f=>?_⟩;refine zcj ?_
  grind[simple]
 |true =>
  have⟨x,⟨_,k1,k2,k3,y,k4,k5⟩,k6⟩:=hx.1 m;refine⟨fun W=>?_,fun W=>?_⟩
  ·have⟨v,k7,k8⟩:=hv.1 zff;refine⟨one 8 t.at_ s [y,v],by show er _=_;rw[fa,bl,bl,k5,k7,S.tree];rfl,sL fun f=>?_⟩;refine zcj ?_;simp only[simple];grind
  ·have⟨j,k7⟩:=hv.2 zff;refine⟨j,sL fun f=>?_⟩;refine zcj ?_
   grind[simple]
end
section
variable{e:Int}{d:Nat}{ts rest:List Tok}{Q:T->Prop}{b:Bool}
theorem S.head{s:S}(A:s.ok=true)(M:ts.map kf=s.tk):∃t r,ts=t::r/\∀rest,aJ (t::rest) 0≠iH/\aJ (t::rest) 0≠[125]:=by
 cases s with
 |set s a =>
  exact zck
 |put s a b =>
  exact zck
 |if1 c b =>
  exact zaw
 |if2 c b m =>
  exact zaw
 |while_ c b =>
  exact zaw
 |ret a =>
  exact zaw
 |var s a =>
  exact zaw
 |do_ a =>
  simp only[S.ok]at A;have⟨u,r0,W,l⟩:=E.head a A;rw[S.tk,W]at M;obtain⟨t,r,rfl,o,_⟩:=map_cons M;refine⟨t,r,rfl,fun rest=>?_⟩
  rcases zX (r:=rest) (by rw[o];exact l)with h|h|h|h|h<;>(rw[h];decide)
def rT(l:List S):Prop:=∀(e:Int)(d:Nat)(W:List T)(ts rest:List Tok)(u:Tok),S.cJ l=true->ts.map kf=S.nT l->u.ai=3->u.s=[125] ->
 (S.fits l d=true->∃i,bl i=S.aE l/\Eb e d W (ts++u::rest) (.ok (W++i,rest)))/\(S.fits l d=false->∃G,Eb e d W (ts++u::rest) (.error (9,G)))
theorem MM:rT []:=by
 intro e d T ts rest u _ N M C
 have:ts=[]:=by simp_all[S.nT]
 subst this;refine⟨fun _=>⟨[],rfl,1,fun f l=>?_⟩,fun h=>by simp[S.fits]at h⟩;obtain⟨f,rfl⟩:∃g,f=g+1:=⟨f-1,by omega⟩;rw[rs.body,ak (by exact ud M C),eT];rfl
theorem KY{a:S}{l:List S}(v:rU a)(n:rT l):rT (a::l):=by
 intro e d T ts rest u C N O E;simp only[S.cJ,aI]at C;rw[S.nT]at N;obtain⟨A,B,rfl,H,F⟩:=ei N;obtain⟨t,r,rfl,W⟩:=S.head C.1 H
 have k:aJ (B++u::rest) 0≠iH:=by
  cases l with
  |nil =>
   have:B=[]:=by simp_all[S.nT]
   subst this;rw[List.nil_append,ud O E];decide
  |cons X z =>
   simp only[S.cJ,aI]at C
   grind[S.nT,ei,S.head]
 have hx:=v e d (t::r) (B++u::rest) C.1 H k
 have j:t::r++B++u::rest=t::r++(B++u::rest):=by simp
 have Y:aJ (t::r++(B++u::rest)) 0≠[125]:=(W _).2;rw[j,S.fits]
 cases c:a.fit d with
 |false =>
  refine⟨fun i=>(by simp at i),fun _=>?_⟩;have⟨G,s,o⟩:=hx.2 c;refine⟨G,s+1,fun f m=>?_⟩;obtain⟨f,rfl⟩:∃g,f=g+1:=⟨f-1,by omega⟩
  grind[rs.body]
 |true =>
  have⟨J,Z,s,o⟩:=hx.1 c;have M:=n e d (T++[J]) B rest u C.2 F O E;refine⟨fun i=>?_,fun i=>?_⟩
  ·have⟨q,R,cL,w⟩:=M.1 zff;refine⟨J::q,by grind[bl,S.aE],s+cL+1,fun f m=>?_⟩;obtain⟨f,rfl⟩:∃g,f=g+1:=⟨f-1,by omega⟩
   grind[rs.body]
  ·have⟨G,cL,R⟩:=M.2 zff;refine⟨G,s+cL+1,fun f m=>?_⟩;obtain⟨f,rfl⟩:∃g,f=g+1:=⟨f-1,by omega⟩
   grind[rs.body]
theorem rT.blk{l:List S}(C:rT l){A:List Tok}{u w:Tok}(B:S.cJ l=true)(O:A.map kf=S.nT l)(N:u.ai=3)(E:u.s=[123])(n:w.ai=3)(M:w.s=[125]) :
  Sx e (.block d) (u::(A++w::rest)) rest (fun t=>er t=.mk ⟨14,0,0,[],[]⟩ (S.aE l)) (decide (d<=60)&&S.fits l (d+1)):=by
 have i:=C e (d+1) [] A rest w B O n M
 by_cases T:d<=60
 ·have:(decide (d<=60)&&S.fits l (d+1))=S.fits l (d+1):=by simp[T]
  rw[this];refine⟨fun h=>?_,fun h=>?_⟩
  ·have⟨j,R,r,o⟩:=i.1 h;refine⟨one 14 u.at_ [] j,by grind[fa],r+1,fun f m=>?_⟩;obtain⟨f,rfl⟩:∃g,f=g+1:=⟨f-1,by omega⟩;rw[rs,ae aH,rE N E];simp only;rw[o f aH];rfl
  ·have⟨G,r,o⟩:=i.2 h;refine⟨G,r+1,fun f m=>?_⟩;obtain⟨f,rfl⟩:∃g,f=g+1:=⟨f-1,by omega⟩;rw[rs,ae aH,rE N E];grind
 ·have:(decide (d<=60)&&S.fits l (d+1))=false:=by simp[T]
  exact zdw
theorem xD{j:tA}{x:Rd T}{t:List Tok}{w:tA}{m:Rd T}(h:Es e j ts x)(G:∀f,rs e f j ts=x->rs e (f+1) w t=m):Es e w t m:=by
 have⟨r,o⟩:=h;refine⟨r+1,fun f l=>?_⟩;obtain⟨f,rfl⟩:∃g,f=g+1:=⟨f-1,by omega⟩
 grind
theorem IY{j u:tA}{x W:Rd T}{t s:List Tok}{w:tA}{m:Rd T}(h:Es e j ts x)(c:Es e u s W)(G:∀f,rs e f j ts=x->rs e f u s=W->rs e (f+1) w t=m):Es e w t m:=by
 have⟨r,o⟩:=h;have⟨cL,q⟩:=c;refine⟨r+cL+1,fun f l=>?_⟩;obtain⟨f,rfl⟩:∃g,f=g+1:=⟨f-1,by omega⟩
 grind
theorem Qw(c:E){l:List S}(C:rT l):rU (.if1 c l):=by
 intro e d ts rest W ht T;simp only[S.ok,aI]at W;rw[S.tk]at ht;obtain⟨v,r,rfl,s,h2⟩:=map_cons ht;obtain⟨u,r,rfl,H,h4⟩:=map_cons h2;obtain⟨A,r,rfl,h5,h6⟩:=ei h4;obtain⟨w,r,rfl,M,h8⟩:=map_cons h6;obtain⟨x,r,rfl,O,z⟩:=map_cons h8;obtain⟨B,r,rfl,F,G⟩:=ei z;obtain⟨y,rfl,i⟩:=jD G;have⟨s,t⟩:=fj s;have⟨H,J⟩:=fj H;have⟨M,N⟩:=fj M;have⟨O,R⟩:=fj O;have⟨i,m⟩:=fj i
 have he:v::u::(A++w::x::(B++[y]))++rest=v::u::(A++w::(x::(B++y::rest))):=by simp
 have Z:=vC (e:=e) (d:=d+1) (rest:=x::(B++y::rest)) W.1 h5 H J M N zfg;have o:=C.blk (e:=e) (d:=d+1) (rest:=rest) W.2 F O R i m;have j:=ud (rest:=u::(A++w::(x::(B++y::rest)))) s t;rw[he,S.fit]
 refine qB fun hd=>?_
 cases n:po c (d+1)with
 |false =>
  refine⟨fun o=>(by simp at o),fun _=>?_⟩;have⟨k,X⟩:=Z.2 n;refine⟨k,sL fun f=>?_⟩;refine zdr ?_;rw[ae zfx,ak (.inl j),tail_cons,X]
 |true =>
  have⟨tc,X,k2⟩:=Z.1 n;rw[Bool.true_and];refine⟨fun h=>?_,fun h=>?_⟩
  ·have⟨tb,q,Y⟩:=o.1 h;refine⟨one 9 v.at_ [] [tc,tb],by show er _=_;rw[fa,bl,bl,X,q,S.tree];rfl,xD Y fun f Y=>?_⟩;refine za1 ?_;simp only;rw[Y];simp only;rw[ak j,ae T];rfl
  ·have⟨k,q⟩:=o.2 h;refine⟨k,xD q fun f q=>?_⟩;refine za1 ?_;grind
theorem K6(c:E){l:List S}(C:rT l):rU (.while_ c l):=by
 intro e d ts rest T Z xn;simp only[S.ok,aI]at T;rw[S.tk]at Z;obtain⟨v,r,rfl,s,h2⟩:=map_cons Z;obtain⟨u,r,rfl,H,h4⟩:=map_cons h2;obtain⟨A,r,rfl,h5,h6⟩:=ei h4;obtain⟨w,r,rfl,M,h8⟩:=map_cons h6;obtain⟨x,r,rfl,O,z⟩:=map_cons h8;obtain⟨B,r,rfl,F,G⟩:=ei z;obtain⟨y,rfl,i⟩:=jD G;have⟨s,t⟩:=fj s;have⟨H,J⟩:=fj H;have⟨M,N⟩:=fj M;have⟨O,R⟩:=fj O;have⟨i,m⟩:=fj i
 have he:v::u::(A++w::x::(B++[y]))++rest=v::u::(A++w::(x::(B++y::rest))):=by simp
 have Y:=vC (e:=e) (d:=d+1) (rest:=x::(B++y::rest)) T.1 h5 H J M N zfg;have o:=C.blk (e:=e) (d:=d+1) (rest:=rest) T.2 F O R i m;have j:=ud (rest:=u::(A++w::(x::(B++y::rest)))) s t;rw[he,S.fit]
 refine qB fun hd=>?_
 cases n:po c (d+1)with
 |false =>
  refine⟨fun o=>(by simp at o),fun _=>?_⟩;have⟨k,W⟩:=Y.2 n;refine⟨k,sL fun f=>?_⟩;refine zdr ?_;rw[ae zfx,ak (.inr j),tail_cons,W]
 |true =>
  have⟨tc,W,k2⟩:=Y.1 n;rw[Bool.true_and];refine⟨fun h=>?_,fun h=>?_⟩
  ·have⟨tb,q,X⟩:=o.1 h;refine⟨one 10 v.at_ [] [tc,tb],by show er _=_;rw[fa,bl,bl,W,q,S.tree];rfl,xD X fun f X=>?_⟩;refine zdr ?_;rw[ae zfx,ak (.inr j),tail_cons,k2];simp only;rw[X];simp only;rw[ae zfx];rfl
  ·have⟨k,q⟩:=o.2 h;refine⟨k,xD q fun f q=>?_⟩;refine zdr ?_;rw[ae zfx,ak (.inr j),tail_cons,k2];grind
theorem Qx(c:E){l l2:List S}(C:rT l)(C2:rT l2):rU (.if2 c l l2):=by
 intro e d ts rest W ht xn;simp only[S.ok,aI]at W;rw[S.tk]at ht;obtain⟨v,r,rfl,Z,h2⟩:=map_cons ht;obtain⟨u,r,rfl,h3,h4⟩:=map_cons h2;obtain⟨A,r,rfl,h5,h6⟩:=ei h4;obtain⟨w,r,rfl,h7,h8⟩:=map_cons h6;obtain⟨x,r,rfl,h9,h10⟩:=map_cons h8;obtain⟨B,r,rfl,h11,h12⟩:=ei h10;obtain⟨y,r,rfl,k,h14⟩:=map_cons h12;obtain⟨z,r,rfl,m,h16⟩:=map_cons h14;obtain⟨t,r,rfl,n,h18⟩:=map_cons h16;obtain⟨q,r,rfl,h19,h20⟩:=ei h18;obtain⟨F,rfl,o⟩:=jD h20;have⟨Z,h1'⟩:=fj Z;have⟨h3,h3'⟩:=fj h3;have⟨h7,h7'⟩:=fj h7;have⟨h9,h9'⟩:=fj h9;have⟨k,G⟩:=fj k;have⟨m,H⟩:=fj m;have⟨n,J⟩:=fj n;have⟨o,M⟩:=fj o
 have he:v::u::(A++w::x::(B++y::z::t::(q++[F])))++rest=v::u::(A++w::(x::(B++y::(z::(t::(q++F::rest)))))):=by simp
 have hi:=vC (e:=e) (d:=d+1) (rest:=x::(B++y::(z::(t::(q++F::rest))))) W.1 h5 h3 h3' h7 h7' zfg;have s:=C.blk (e:=e) (d:=d+1) (rest:=z::(t::(q++F::rest))) W.2.1 h11 h9 h9' k G;have N:=C2.blk (e:=e) (d:=d+1) (rest:=rest) W.2.2 h19 n J o M;have j:=ud (rest:=u::(A++w::(x::(B++y::(z::(t::(q++F::rest))))))) Z h1';have hz:=ud (rest:=t::(q++F::rest)) m H;rw[he,S.fit]
 refine qB fun hd=>?_
 cases O:po c (d+1)with
 |false =>
  refine⟨fun s=>(by simp at s),fun _=>?_⟩;have⟨i,k1⟩:=hi.2 O;refine⟨i,sL fun f=>?_⟩;refine zdr ?_;rw[ae zfx,ak (.inl j),tail_cons,k1]
 |true =>
  have⟨tc,k1,k2⟩:=hi.1 O;rw[Bool.true_and]
  cases R:(decide (d+1<=60)&&S.fits l (d+2))with
  |false =>
   refine⟨fun s=>(by simp at s),fun _=>?_⟩;have⟨i,X⟩:=s.2 R;refine⟨i,xD X fun f X=>?_⟩;refine za1 ?_;grind
  |true =>
   have⟨tb,X,T⟩:=s.1 R;rw[Bool.true_and];refine⟨fun h=>?_,fun h=>?_⟩
   ·have⟨tb2,Y,k6⟩:=N.1 h;refine⟨one 9 v.at_ [] [tc,tb,tb2],by show er _=_;rw[fa,bl,bl,bl,k1,X,Y,S.tree];rfl,IY T k6 fun f T k6=>?_⟩;refine za1 ?_;simp only;rw[T];simp only;rw[ak j,ak hz,tail_cons,k6];rfl
   ·have⟨i,Y⟩:=N.2 h;refine⟨i,IY T Y fun f T Y=>?_⟩;refine za1 ?_;grind
end
mutual
def coreS:∀(s:S),rU s
 |.set s a=>QB s a
 |.put s a b=>Qz s a b
 |.if1 c b=>Qw c (yA b)
 |.if2 c b m=>Qx c (yA b) (yA m)
 |.while_ c b=>K6 c (yA b)
 |.ret a=>QA a
 |.do_ a=>Ul a
 |.var s a=>QC s a
def yA:∀(l:List S),rT l
 |[]=>MM
 |a::l=>KY (coreS a) (yA l)
end
def KS(l:List S):List K:=kS [123]::(S.nT l++[kS [125]])
def cj(l:List S):T:=.mk ⟨14,0,0,[],[]⟩ (S.aE l)
def fv(l:List S)(d:Nat):Bool:=decide (d<=60)&&S.fits l (d+1)
def aac(e:Int):∀f,(∀j ts,rs e f j ts=.error bO\/rs e (f+1) j ts=rs e f j ts)/\(∀d T ts,rs.body e f d T ts=.error bO\/rs.body e (f+1) d T ts=rs.body e f d T ts):=by
 intro f
 induction f with
 |zero=>exact⟨fun j ts=>.inl zfF,fun d T ts=>.inl zfw⟩
 |succ f O =>
  have⟨H,R⟩:=O;refine⟨fun j ts=>?_,fun d T ts=>?_⟩
  ·cases j with
   |block d =>
    grind[rs]
   |stmt d =>
    rw[rs,rs];split
    ·simp
    ·simp only;split
     ·simp
     ·split
      ·cases inner e (d+1) [40] [41] ts.tail with
       |error x=>simp
       |ok y =>
        grind
      simp
  grind[rs.body]
def Vs{e:Int}{f Z:Nat}{j:tA}{ts:List Tok}(h:rs e f j ts≠.error bO)(hf:f<=Z):rs e Z j ts=rs e f j ts:=by
 obtain⟨k,rfl⟩:=Nat.exists_eq_add_of_le hf;clear hf
 induction k with
 |zero=>rfl
 |succ k O =>
  rcases(aac e (f+k)).1 j ts with o|o
  ·grind
  grind
def EY{l:List S}{e:Int}{d:Nat}{ts rest:List Tok}(B:S.cJ l=true)(M:ts.map kf=KS l) :
  (fv l d=true->∃t,er t=cj l/\block e d (ts++rest)=.ok (t,rest))/\(fv l d=false->∃G,block e d (ts++rest)=.error (9,G)):=by
 obtain⟨u,r,rfl,o,c⟩:=map_cons M;obtain⟨A,r,rfl,H,E⟩:=ei c;obtain⟨w,rfl,i⟩:=jD E;have⟨o,C⟩:=fj o;have⟨i,F⟩:=fj i;have j:=(yA l).blk (e:=e) (d:=d) (rest:=rest) B H o C i F
 have m:u::(A++[w])++rest=u::(A++w::rest):=by simp
 rw[m]
 have R:∀{x:Rd T},Es e (.block d) (u::(A++w::rest)) x->block e d (u::(A++w::rest))=x:=by
  rintro x⟨s,q⟩;have k:rs e (nO (u::(A++w::rest))) (.block d) (u::(A++w::rest))≠.error bO:=wu;have:=Vs k (Nat.le_add_left _ s)
  grind[block]
 exact⟨fun h=>by have⟨t,W,O⟩:=j.1 h;exact⟨t,W,R O⟩,fun h=>by have⟨G,W⟩:=j.2 h;grind⟩
open Go.Sp (dC c9 cN own nQ bR)
def bL(n:Int):Int:=if n%4294967296>2147483647 then n%4294967296-4294967296 else n%4294967296
def hY(n:Nat):ab:=if h:n<10 then[UInt8.ofNat (48+n)]else hY (n / 10)++[UInt8.ofNat (48+n%10)]
termination_by n
decreasing_by omega
def E5(n:Nat):(hY n).length<=n+1:=by
 induction n using Nat.strongRecOn with
 |_ n O =>
 grind[hY]
def cE:List ab->ab
 |[]=>[]
 |x::r=>x++r.flatMap fun y=>44::32::y
def A2{l:List ab}(h:l≠[])(x:ab):cE (l++[x])=(cE l++[44,32])++x:=by
 cases l with
 |nil=>grind
 |cons a l=>simp[ab,cE]
def wL(l:List ab)(k:Nat):(cE (l.take k)).length<=(cE l).length:=by
 cases l with
 |nil=>simp
 |cons a l =>
  cases k with
  |zero=>simp[cE]
  |succ k =>
   simp only[List.take_succ_cons,cE,br]
   have:∀(l:List ab)(k:Nat),((l.take k).flatMap fun y=>(44:UInt8)::32::y).length<=(l.flatMap fun y=>(44:UInt8)::32::y).length:=by
    intro l
    induction l with
    |nil=>simp
    |cons b l O=>intro k;cases k with
     |zero=>simp
     |succ k=>grind
   grind
def re(lv k:Nat)(x:ab):ab:=if lv<k then(40::x)++[41]else x
mutual
def E.bS:E->ab
 |.num n=>hY n.toNat
 |.name s=>s
 |.at_ s a=>((s++[91])++a.bS)++[93]
 |.call s l=>((s++[40])++cE (E.eh l))++[41]
 |.un s a=>(s++[32])++re a.lv 9 a.bS
 |.bin s a b=>(((re a.lv (fk s) a.bS++[32])++s)++[32])++re b.lv (fk s+1) b.bS
def E.eh:List E->List ab
 |[]=>[]
 |a::l=>a.bS::E.eh l
end
mutual
def E.full:E->ab
 |.num n=>hY n.toNat
 |.name s=>s
 |.at_ s a=>((s++[91])++a.full)++[93]
 |.call s l=>((s++[40])++cE (E.rX l))++[41]
 |.un s a=>((40::s)++a.full)++[41]
 |.bin s a b=>(((((40::a.full)++[32])++s)++[32])++b.full)++[41]
def E.rX:List E->List ab
 |[]=>[]
 |a::l=>a.full::E.rX l
end
def E.Sb(l:List E):E.eh l=l.map E.bS:=by
 induction l with
 |nil=>rfl
 |cons a l O=>grind[eh]
def E.Nq(l:List E):E.rX l=l.map E.full:=by
 induction l with
 |nil=>rfl
 |cons a l O=>grind[rX]
def E.out(C:Bool)(a:E):ab:=if C then a.bS else a.full
mutual
def S.bS(x:E->ab):S->ab
 |.set s a=>((s++[32,61,32])++x a)++[59]
 |.put s a b=>((((s++[91])++x a)++[93,32,61,32])++x b)++[59]
 |.if1 c b=>(([105,102,32,40]++x c)++[41,32])++(S.eh x [123,32] b++[125])
 |.if2 c b m=>(((([105,102,32,40]++x c)++[41,32])++(S.eh x [123,32] b++[125]))++[32,101,108,115,101,32])++(S.eh x [123,32] m++[125])
 |.while_ c b=>(([119,104,105,108,101,32,40]++x c)++[41,32])++(S.eh x [123,32] b++[125])
 |.ret a=>([114,101,116,117,114,110,32]++x a)++[59]
 |.do_ a=>x a++[59]
 |.var s a=>((([118,97,114,32]++s)++[32,61,32])++x a)++[59]
def S.eh(x:E->ab):ab->List S->ab
 |acc,[]=>acc
 |acc,a::l=>S.eh x ((acc++a.bS x)++[32]) l
end
def fY(x:E->ab)(l:List S):ab:=S.eh x [123,32] l++[125]
def Is(n:Nd)(l:List T):dC (.mk n l)=(c9 l&&cN (.mk n l)):=by rw[dC]
theorem uw{l:List T}(h:c9 l=true){t:T}(M:t∈l):dC t=true:=by
 induction l with
 |nil=>cases M
 |cons a l O =>
  grind[c9]
theorem pQ(n:Nd)(l:List T):er (.mk n l)=.mk ⟨n.ai,0,n.n,n.s,[]⟩ (bl l):=by rw[er]
def jO{l:List T}{m i:Nat}(h:bR m i l=true):∀(j:Nat)t,l[j]?=some t->(if i+j<m then nQ t.n.ai else t.n.ai==14)=true:=by
 induction l generalizing i with
 |nil=>simp
 |cons a l O =>
  grind[bR]
def Fa:∀(l:List T),(∀t∈l,∃a:E,a.ok=true/\er t=a.tree)->∃e:List E,E.cJ e=true/\bl l=E.aE e
 |[],_=>⟨[],rfl,rfl⟩
 |t::l,h=>by
  have⟨a,o,b⟩:=h t (mem_cons_self);obtain⟨e,G,C⟩:=Fa l (fun t M=>h t (ec _ M));exact⟨a::e,by grind[E.cJ],by grind[bl,E.aE]⟩
def toE:∀(J:Nat)(t:T),sizeOf t<=J->dC t=true->nQ t.n.ai=true->∃a:E,a.ok=true/\er t=a.tree:=by
 intro J
 induction J with
 |zero=>intro t h;cases t;simp at h
 |succ J R =>
  intro t B z N;have⟨n,l⟩:=t;rw[Is,aI]at z;have⟨z,A⟩:=z
  have W:∀t∈l,nQ t.n.ai=true->∃a:E,a.ok=true/\er t=a.tree:=fun t M N=>by
   have:=List.sizeOf_lt_of_mem M
   grind[uw]
  have⟨k,at_,v,s,F⟩:=n
  have N:(1:Int)<=k/\k<=6:=by
   simp only[nQ,T.n,aI]at N
   grind
  simp only[cN,own,T.n,T.aw]at A
  obtain rfl|rfl|rfl|rfl|rfl|rfl:k=1\/k=2\/k=3\/k=4\/k=5\/k=6:=by omega
  ·simp at A;have⟨o,c,G,C,e⟩:=A;subst C e;exact⟨.num v,by grind[E.ok],by rfl⟩
  ·simp at A;have⟨o,c,G,C⟩:=A;subst c C;exact⟨.name s,by simp[E.ok,G],by rfl⟩
  ·simp at A;have⟨o,c,G,C,e⟩:=A;subst c
   match l,C with
   |[t],_ =>
    have w:=jO e 0 t rfl;have⟨a,q,O⟩:=W t zfg zff;exact⟨.at_ s a,by grind[E.ok],by rw[pQ,E.tree,bl,O];rfl⟩
  ·simp at A;have⟨o,c,G,e⟩:=A;subst c
   obtain⟨i,q,O⟩:=Fa l fun t M=>W t M (by
    have⟨j,Y⟩:=List.mem_iff_getElem?.1 M;have Q:=(bY Y).1;have:=jO e j t Y
    grind)
   exact⟨.call s i,by grind[E.ok],by rw[pQ,E.tree,O]⟩
  ·simp at A;have⟨o,c,G,C,e⟩:=A;subst c
   match l,C with
   |[t],_ =>
    have w:=jO e 0 t rfl;have⟨a,q,O⟩:=W t zfg zff;exact⟨.un s a,by grind[E.ok],by rw[pQ,E.tree,bl,O];rfl⟩
  ·simp at A;have⟨o,c,G,C,e⟩:=A;subst c
   match l,C with
   |[t,u],_ =>
    have w:=jO e 0 t rfl;have r:=jO e 1 u rfl;have⟨a,q,O⟩:=W t zfg zff;have⟨b,S,d⟩:=W u zfg zff;exact⟨.bin s a b,by grind[E.ok],by grind[pQ,bl,er,E.tree]⟩
open Go.Sp (im)
def G4:∀(l:List T),(∀t∈l,∃a:S,a.ok=true/\er t=a.tree)->∃e:List S,S.cJ e=true/\bl l=S.aE e
 |[],_=>⟨[],rfl,rfl⟩
 |t::l,h=>by
  have⟨a,o,b⟩:=h t (mem_cons_self);obtain⟨e,G,C⟩:=G4 l (fun t M=>h t (ec _ M));exact⟨a::e,by grind[S.cJ],by grind[bl,S.aE]⟩
def toS:∀(J:Nat)(t:T),sizeOf t<=J->dC t=true->(im t.n.ai=true->∃a:S,a.ok=true/\er t=a.tree)/\(t.n.ai=14->∃l:List S,S.cJ l=true/\er t=cj l):=by
 intro J
 induction J with
 |zero=>intro t h;cases t;simp at h
 |succ J R =>
  intro t Q F;have⟨n,l⟩:=t;rw[Is,aI]at F;have⟨F,A⟩:=F
  have z:∀t∈l,nQ t.n.ai=true->∃a:E,a.ok=true/\er t=a.tree:=fun t M N=>toE _ t (aY _) (uw F M) N
  have B:∀t∈l,t.n.ai=14->∃l:List S,S.cJ l=true/\er t=cj l:=fun t M N=>by
   have:=List.sizeOf_lt_of_mem M
   grind[uw]
  have r:∀t∈l,im t.n.ai=true->∃a:S,a.ok=true/\er t=a.tree:=fun t M N=>by
   have:=List.sizeOf_lt_of_mem M
   grind[uw]
  have⟨k,at_,v,s,Y⟩:=n;simp only[cN,own,T.n,T.aw]at A;refine⟨fun N=>?_,fun N=>?_⟩
  ·have N:(7:Int)<=k/\k<=13:=by
    simp only[im,T.n,aI]at N
    grind
   obtain rfl|rfl|rfl|rfl|rfl|rfl|rfl:k=7\/k=8\/k=9\/k=10\/k=11\/k=12\/k=13:=by omega
   ·simp at A;have⟨q,d,G,C,e⟩:=A;subst d
    match l,C with
    |[t],_ =>
     have⟨a,o,O⟩:=z t zfg zfk;exact⟨.set s a,by grind[S.ok],by rw[pQ,S.tree,bl,O];rfl⟩
   ·simp at A;have⟨q,d,G,C,e⟩:=A;subst d
    match l,C with
    |[t,u],_ =>
     have⟨a,o,O⟩:=z t zfg zfk;have⟨b,W,i⟩:=z u zfg zfv;exact⟨.put s a b,by grind[S.ok],by grind[pQ,bl,er,S.tree]⟩
   ·simp at A;have⟨q,d,G,C,e⟩:=A;subst d G
    rcases C with C|C
    ·match l,C with
     |[t,u],_ =>
      have⟨a,o,O⟩:=z t zfg zfk;have⟨b,W,i⟩:=B u zfg zfv;exact⟨.if1 a b,by grind[S.ok],by rw[pQ,S.tree,bl,bl,O,i];rfl⟩
    ·match l,C with
     |[t,u,w],_ =>
      have⟨a,o,O⟩:=z t zfg zfk;have⟨b,W,i⟩:=B u zfg zfv;obtain⟨c,X,H⟩:=B w zfg (by simpa using jO e 2 w rfl);exact⟨.if2 a b c,by grind[S.ok],by rw[pQ,S.tree,bl,bl,bl,O,i,H];rfl⟩
   ·simp at A;have⟨q,d,G,C,e⟩:=A;subst d G
    match l,C with
    |[t,u],_ =>
     have⟨a,o,O⟩:=z t zfg zfk;have⟨b,W,i⟩:=B u zfg zfv;exact⟨.while_ a b,by grind[S.ok],by rw[pQ,S.tree,bl,bl,O,i];rfl⟩
   ·simp at A;have⟨q,d,G,C,e⟩:=A;subst d G
    match l,C with
    |[t],_ =>
     have⟨a,o,O⟩:=z t zfg zfk;exact⟨.ret a,by simp[S.ok,o],by rw[pQ,S.tree,bl,O];rfl⟩
   ·simp at A;have⟨q,d,G,C,e⟩:=A;subst d G
    match l,C with
    |[t],_ =>
     have⟨a,o,O⟩:=z t zfg zfk;exact⟨.do_ a,by simp[S.ok,o],by rw[pQ,S.tree,bl,O];rfl⟩
   ·simp at A;have⟨q,d,G,C,e⟩:=A;subst d
    match l,C with
    |[t],_ =>
     have⟨a,o,O⟩:=z t zfg zfk;exact⟨.var s a,by grind[S.ok],by rw[pQ,S.tree,bl,O];rfl⟩
  ·simp only[T.n]at N;subst N;simp at A;have⟨q,d,G,C⟩:=A;subst d C
   obtain⟨j,e,o⟩:=G4 l fun t M=>r t M (G t M)
   grind[S.cJ,er,cj]
def toB{t:T}(h:dC t=true)(N:t.n.ai=14):∃l:List S,S.cJ l=true/\er t=cj l:=(toS _ t (aY _) h).2 N
mutual
def wt:T->Nat
 |.mk n l=>30+n.s.length+gI l
def gI:List T->Nat
 |[]=>0
 |t::l=>wt t+gI l
end
mutual
theorem TW:∀t:T,wt (er t)=wt t
 |.mk n l=>by rw[er,wt,wt,Ks l]
theorem Ks:∀l:List T,gI (bl l)=gI l
 |[]=>rfl
 |t::l=>by rw[bl,gI,gI,TW t,Ks l]
end
def II:∀(k n:Nat),n<10^(k+1)->(hY n).length<=k+1:=by
 intro k
 induction k with
 |zero=>grind[hY]
 |succ k O =>
  grind[hY]
def td(lv k:Nat)(x:ab):(re lv k x).length<=x.length+2:=by grind[re]
mutual
theorem E.len:∀a:E,a.ok=true->a.bS.length+4<=wt a.tree/\a.full.length+4<=wt a.tree
 |.num n,h=>by
  simp only[E.ok,aI]at h;have o:=q9 h.1;have c:=q9 h.2;have:=II 9 n.toNat aH
  grind[bS,wt,tree,full]
 |.name s,h=>by grind[bS,wt,tree,full]
 |.at_ s a,h=>by
  simp only[E.ok,aI]at h;have:=E.len a h.2;exact zb7
 |.call s l,h=>by
  simp only[E.ok,aI]at h;have:=E.lens l h.2
  grind[bS,wt,tree,full]
 |.un s a,h=>by
  simp only[E.ok,aI]at h;have:=E.len a h.2;have:=td a.lv 9 a.bS;exact zb7
 |.bin s a b,h=>by
  simp only[E.ok,aI]at h;have:=E.len a h.1.2;have:=E.len b h.2;have:=td a.lv (fk s) a.bS;have:=td b.lv (fk s+1) b.bS;exact zb7
theorem E.lens:∀l:List E,E.cJ l=true->(cE (E.eh l)).length<=gI (E.aE l)/\(cE (E.rX l)).length<=gI (E.aE l)
 |[],_=>⟨bp _,bp _⟩
 |a::l,h=>by
  simp only[E.cJ,aI]at h;have o:=E.len a h.1;have b:=E.lens l h.2;rw[E.eh,E.rX,E.aE,gI]
  have R:∀(x:ab)(l:List ab),(cE (x::l)).length<=x.length+2+(cE l).length:=by
   intro x l
   cases l with
   |nil=>simp[cE]
   |cons y l=>grind[cE]
  grind
end
mutual
theorem S.len(x:E->ab)(hx:∀a:E,a.ok=true->(x a).length+4<=wt a.tree):∀s:S,s.ok=true->(s.bS x).length+4<=wt s.tree
 |.set s a,h=>by
  simp only[S.ok,aI]at h
  exact zaK
 |.put s a b,h=>by
  simp only[S.ok,aI]at h
  exact zaK
 |.if1 c b,h=>by
  simp only[S.ok,aI]at h;have:=hx c h.1;have:=S.lens x hx b h.2 [123,32]
  exact zaK
 |.if2 c b m,h=>by
  simp only[S.ok,aI]at h;have:=hx c h.1;have:=S.lens x hx b h.2.1 [123,32];have:=S.lens x hx m h.2.2 [123,32];rw[S.bS,S.tree,wt];simp only[gI,wt,br,length_cons,length_nil]at *;omega
 |.while_ c b,h=>by
  simp only[S.ok,aI]at h;have:=hx c h.1;have:=S.lens x hx b h.2 [123,32]
  exact zaK
 |.ret a,h=>by
  simp only[S.ok]at h
  exact zaK
 |.do_ a,h=>by
  simp only[S.ok]at h
  exact zaK
 |.var s a,h=>by
  simp only[S.ok,aI]at h
  exact zaK
theorem S.lens(x:E->ab)(hx:∀a:E,a.ok=true->(x a).length+4<=wt a.tree):∀l:List S,S.cJ l=true->∀T:ab,(S.eh x T l).length<=T.length+gI (S.aE l)
 |[],_,T=>by grind[eh]
 |a::l,h,T=>by
  simp only[S.cJ,aI]at h;have o:=S.len x hx a h.1;have b:=S.lens x hx l h.2 ((T++a.bS x)++[32]);rw[S.eh,S.aE,gI];simp only[br,length_cons,length_nil]at b;omega
end
def s9(x:E->ab)(hx:∀a:E,a.ok=true->(x a).length+4<=wt a.tree){l:List S}(h:S.cJ l=true):(fY x l).length<=wt (cj l):=by
 grind[S.lens,br,length_cons,length_nil,fY,wt,cj]
end Go.Xp
namespace Go.Im
open Go.Xp Go.Sp
def rl(g:Nat->Option (T × Nat)):List Int->Nat->List T->Option (List T × Nat)
 |[],next,W=>some (W,next)
 |k::r,next,W=>if k=(next:Int)then match g next with
  |none=>none
  |some (t,e)=>rl g r e (W++[t])
  else none
def pM(ah:List Nd):Nat->Nat->Option (T × Nat)
 |0,_=>none
 |f+1,a=>match ah[a]? with
  |none=>none
  |some n=>match rl (pM ah f) n.aw (a+1) []with
   |none=>none
   |some (l,e)=>if n.at_<0 then none else some (.mk n l,e)
def tr(ah:List Nd)(a:Nat):Option (T × Nat):=pM ah (ah.length+1) a
def Hm{ah:List Nd}{g:Nat->Option (T × Nat)}(hg:∀a t e,g a=some (t,e)->a<e/\e<=ah.length/\e=a+aU t/\(ah.take e).drop a=dW a t) :
  ∀(ks:List Int)(next:Nat)(W l:List T)(e:Nat),next<=ah.length->rl g ks next W=some (l,e)->∃X,l=W++X/\e=next+aM X/\e<=ah.length/\ks=bx next X/\(ah.take e).drop next=bZ next X
 |[],next,W,l,e,c,h=>by
  grind[rl,ll,sa,mf,aM,bx,bZ]
 |k::r,next,W,l,e,c,h=>by
  rw[rl]at h;split at h
  ·rename_i N
   cases J:g next with
   |none=>grind
   |some x =>
    have⟨t,w⟩:=x;rw[J]at h;simp only at h;have⟨a1,F,A,b⟩:=hg _ _ _ J;have⟨X,m,n,v,B,s⟩:=Hm hg r w (W++[t]) l e F h
    grind[aM,bx,bZ]
  ·cases h
def As{ah:List Nd}:∀(f a:Nat)(t:T)(e:Nat),pM ah f a=some (t,e)->a<e/\e<=ah.length/\e=a+aU t/\(ah.take e).drop a=dW a t
 |0,a,t,e,h=>by cases h
 |f+1,a,t,e,h=>by
  rw[pM]at h
  cases c:ah[a]? with
  |none=>grind
  |some n =>
   rw[c]at h;simp only at h;have N:=(bY c).1
   cases O:rl (pM ah f) n.aw (a+1) []with
   |none=>grind
   |some x =>
    have⟨l,w⟩:=x;rw[O]at h;simp only at h;split at h
    ·cases h
    ·cases h;have⟨W,m,q,v,A,s⟩:=Hm (As f) n.aw (a+1) [] l e N O
     have:W=l:=by grind
     subst this;refine⟨by omega,v,by rw[aU];omega,?_⟩;rw[dW,<-A,<-s]
     have o:(ah.take e)[a]?=some n:=by grind
     have⟨b,G⟩:=bY o;rw[j3 b,G]
def kG(ah:List Nd):List Fn->Nat->List T->Option (List T × Nat)
 |[],next,W=>some (W,next)
 |f::r,next,W=>match tr ah next with
  |none=>none
  |some (t,e)=>if f.body=(next:Int)then kG ah r e (W++[t])else none
def eG(k:Int)(n:Nat):Bool :=
 if k=1\/k=2 then((n:Int)==0)
 else if k=4\/k=14 then true
 else if k=3\/k=5\/k=7\/k=11\/k=12\/k=13 then((n:Int)==1)
 else if k=6\/k=8\/k=10 then((n:Int)==2)
 else if k=9 then((n:Int)==2) ||((n:Int)==3)
 else false
mutual
def iG:T->Bool
 |.mk n l=>eG n.ai l.length&&xS l
def xS:List T->Bool
 |[]=>true
 |t::r=>iG t&&xS r
end
def vD(t:T):iG t=(eG t.n.ai t.aw.length&&xS t.aw):=by cases t;rfl
theorem qd(l:List T):xS l=l.all iG:=by
 induction l with
 |nil=>rfl
 |cons t l O=>grind[xS]
mutual
def dM(ah:List Nd):Nat->T->Prop
 |a,.mk n l=>ah[a]?=some n/\n.aw=bx (a+1) l/\dn ah (a+1) l
def dn(ah:List Nd):Nat->List T->Prop
 |_,[]=>True
 |a,t::r=>dM ah a t/\dn ah (a+aU t) r
end
mutual
def xi:T->Prop
 |.mk n l=>0<=n.at_/\mn l
def mn:List T->Prop
 |[]=>True
 |t::r=>xi t/\mn r
end
theorem iD(t:T):1<=aU t:=by simp[eI]
mutual
theorem dM.le{ah:List Nd}:∀(t:T)(a:Nat),dM ah a t->a+aU t<=ah.length
 |.mk n l,a,h=>by
  rw[dM]at h;have o:=(bY h.1).1;have:=dn.le l (a+1) h.2.2 o;rw[aU];omega
theorem dn.le{ah:List Nd}:∀(l:List T)(a:Nat),dn ah a l->a<=ah.length->a+aM l<=ah.length
 |[],a,h,v=>by grind[aM]
 |t::r,a,h,v=>by
  rw[dn]at h;have o:=dM.le t a h.1;have:=dn.le r _ h.2 o;rw[aM];omega
end
section
variable{ah:List Nd}
theorem IP:∀(f:Nat),(∀(a d:Nat)(e:Int),py ah f a d=some e->0<=e->∃t,dM ah a t/\e=((a+aU t:Nat):Int)) /\
  (∀(ks:List Int)(next d:Nat)(e:Int),px ah f ks (next:Int) d=some e->0<=e->∃l,dn ah next l/\ks=bx next l/\e=((next+aM l:Nat):Int)):=by
 intro f
 induction f with
 |zero =>
  refine⟨fun a d e h _=>by simp[py]at h,fun ks next d e h _=>?_⟩
  cases ks with
  |nil=>rw[px]at h;grind[dn,bx,aM]
  |cons k r=>simp[px]at h
 |succ f O =>
  refine⟨fun a d e h i=>?_,fun ks next d e h i=>?_⟩
  ·rw[py]at h;split at h
   ·grind
   ·cases c:ah[a]? with
    |none=>grind
    |some n =>
     rw[c]at h;simp only at h;rw[show((a:Int)+1)=((a+1:Nat):Int) by omega]at h;have⟨l,o,b,G⟩:=O.2 _ _ _ _ h i;exact⟨.mk n l,by grind[dM],by grind[aU]⟩
  ·cases ks with
   |nil=>rw[px]at h;grind[dn,bx,aM]
   |cons k r =>
    rw[px]at h;split at h
    ·rename_i N;subst N;rw[ik]at h
     cases J:py ah f next (d+1)with
     |none=>grind
     |some w =>
      rw[J]at h;simp only at h;split at h
      ·grind
      ·rename_i q;have⟨t,o,b⟩:=O.1 _ _ _ J aH;subst b;have⟨l,G,C,j⟩:=O.2 _ _ _ _ h i;refine⟨t::l,by grind[dn],by grind[bx],by grind[aM]⟩
    grind
theorem wa:∀(f:Nat),(∀(t:T)(a:Nat),dM ah a t->2*aU t<=f->sub ah f a=some t) /\
  (∀(l:List T)(a:Nat)(W:List T),dn ah a l->2*aM l+1<=f->pC ah f (bx a l) W=some (W++l)):=by
 intro f
 induction f with
 |zero =>
  grind[iD]
 |succ f O =>
  refine⟨fun t a G h=>?_,fun l a W G h=>?_⟩
  ·have⟨n,l⟩:=t
   grind[dM,aU,sub]
  ·cases l with
   |nil=>rw[bx,pC];simp
   |cons t l =>
    rw[dn]at G;rw[aM]at h;have:=iD t
    grind[pC,bx]
theorem YS:∀(f:Nat)(t:T)(a:Nat),dM ah a t->xi t->aU t<=f->pM ah f a=some (t,a+aU t):=by
 intro f
 induction f with
 |zero=>grind[iD]
 |succ f O =>
  intro t a G v h;have⟨n,l⟩:=t
  have R:∀(l:List T)(a:Nat)(W:List T),dn ah a l->mn l->aM l<=f->rl (pM ah f) (bx a l) a W=some (W++l,a+aM l):=by
   intro l
   induction l with
   |nil=>intro a W _ _ _;rw[bx,rl,aM];simp
   |cons t l z =>
    intro a W G v h;rw[dn]at G;rw[mn]at v
    grind[rl,pM,bx,aM]
  rw[dM]at G;rw[xi]at v
  grind[pM,aU]
theorem YF:∀(f:Nat)(t:T)(a e:Nat),pM ah f a=some (t,e)->dM ah a t/\e=a+aU t/\xi t:=by
 intro f
 induction f with
 |zero=>grind[pM]
 |succ f O =>
  intro t a e h
  have R:∀(u:List Int)(next:Nat)(W l:List T)(e:Nat),rl (pM ah f) u next W=some (l,e)->∃X,l=W++X/\dn ah next X/\u=bx next X/\e=next+aM X/\mn X:=by
   intro u
   induction u with
   |nil=>intro next W l e h;rw[rl]at h;grind[dn,bx,aM,mn]
   |cons k r z =>
    intro next W l e h
    grind[rl,pM,dn,bx,aM,mn]
  grind[pM,rl,dM,aU,xi]
theorem Ut(M:ah.length<=800):∀(f:Nat),(∀(t:T)(a d:Nat),dM ah a t->d<=a->2*aU t<=f->py ah f a d=some ((a+aU t:Nat):Int)) /\
  (∀(l:List T)(a d:Nat),dn ah a l->d<a->2*aM l+1<=f->px ah f (bx a l) (a:Int) d=some ((a+aM l:Nat):Int)):=by
 intro f
 induction f with
 |zero =>
  grind[iD]
 |succ f O =>
  refine⟨fun t a d G W h=>?_,fun l a d G W h=>?_⟩
  ·have⟨n,l⟩:=t;rw[dM]at G;rw[aU]at h |-;have N:=(bY G.1).1;rw[py,ae aH,G.1];simp only;rw[show((a:Int)+1)=((a+1:Nat):Int) by omega,G.2.1,O.2 l (a+1) d G.2.2 aH aH]
   grind
  ·cases l with
   |nil=>rfl
   |cons t l =>
    rw[dn]at G;rw[aM]at h |-;have:=iD t;rw[bx,px,ak rfl,ik,O.1 t a (d+1) G.1 aH aH];simp only;rw[ae aH,O.2 l _ d G.2 aH aH]
    grind
theorem MU:∀(f:Nat),(∀(a d:Nat),2*(ah.length-a)+1<=f->∃e,py ah f a d=some e/\(0<=e->(a:Int)<e/\a<ah.length)) /\
  (∀(ks:List Int)(next d:Nat),2*(ah.length-next)+2<=f->∃e,px ah f ks (next:Int) d=some e/\(0<=e->(next:Int)<=e)):=by
 intro f
 induction f with
 |zero=>simp
 |succ f O =>
  refine⟨fun a d h=>?_,fun ks next d h=>?_⟩
  ·rw[py];split
   ·simp
   ·rename_i W
    cases j:ah[a]? with
    |none=>grind
    |some n =>
     simp only;rw[show((a:Int)+1)=((a+1:Nat):Int) by omega];have⟨e,o,b⟩:=O.2 n.aw (a+1) d aH
     grind
  ·cases ks with
   |nil=>simp[px]
   |cons k r =>
    rw[px];split
    ·rename_i N;subst N;rw[ik]
     have⟨e,o,b⟩:=O.1 next (d+1) aH
     rw[o];simp only;split
     ·simp
     ·rename_i q;have G:=b aH;obtain⟨m,rfl⟩:∃m:Nat,e=(m:Int):=⟨e.toNat,by omega⟩;have⟨c,C,i⟩:=O.2 r m d aH
      grind
    simp
end
def en(Q:Fn->T->Prop):List Fn->Nat->List T->Prop
 |[],_,[]=>True
 |f::r,a,t::l=>f.body=(a:Int)/\Q f t/\en Q r (a+aU t) l
 |_,_,_=>False
theorem en.len{Q:Fn->T->Prop}:∀{av:List Fn}{a:Nat}{l:List T},en Q av a l->av.length=l.length
 |[],_,[],_=>rfl
 |f::r,a,t::l,h=>by rw[en]at h;rw[length_cons,length_cons,en.len h.2.2]
 |[],_,t::l,h=>by cases h
 |f::r,_,[],h=>by cases h
theorem en.mono{Q R:Fn->T->Prop}:∀{av:List Fn}{a:Nat}{l:List T},en Q av a l->(∀f t,f∈av->t∈l->Q f t->R f t)->en R av a l
 |[],_,[],_,_=>trivial
 |f::r,a,t::l,h,J=>by
  rw[en]at h |-;exact⟨h.1,J _ _ mem_cons_self mem_cons_self h.2.1,en.mono h.2.2 fun f t m M=>J f t (ec _ m) (ec _ M)⟩
 |[],_,t::l,h,_=>by cases h
 |f::r,_,[],h,_=>by cases h
def en.at_{Q:Fn->T->Prop}:∀{av:List Fn}{a:Nat}{l:List T},en Q av a l->∀(i:Nat)f t,av[i]?=some f->l[i]?=some t->f.body=((a+aM (l.take i):Nat):Int)/\Q f t
 |[],_,[],_,i,f,t,o,b=>by simp at o
 |f::r,a,t::l,h,i,Z,k,o,b=>by
  rw[en]at h
  cases i with
  |zero=>cases o;cases b;rw[List.take_zero,aM];exact⟨h.1,h.2.1⟩
  |succ i =>
   have⟨R,O⟩:=en.at_ h.2.2 i Z k zfp zfE;exact⟨by rw[R,List.take_succ_cons,aM];omega,O⟩
 |[],_,t::l,h,_,_,_,_,_=>by cases h
 |f::r,_,[],h,_,_,_,_,_=>by cases h
structure Qb(f:Fn)(t:T):Prop where
 name:bm f.name=true
 params:dq f.params=true
 ai:t.n.ai=14
 all:dC t=true
section
variable{ah:List Nd}
theorem zp:∀(av:List Fn)(next:Nat)(e:Int),jt ah av (next:Int)=some (some e)->∃l,dn ah next l/\en Qb av next l/\e=((next+aM l:Nat):Int)
 |[],next,e,h=>by rw[jt]at h;grind[dn,en,aM]
 |f::r,next,e,h=>by
  rw[jt,ik]at h
  cases c:py ah (fN ah) next 0 with
  |none=>grind
  |some w =>
   rw[c]at h;simp only at h;split at h
   ·cases h
   ·rename_i W;split at h
    ·cases h
    ·rename_i X;have⟨t,o,b⟩:=(IP _).1 _ _ _ c aH;have N:=dM.le t _ o;rw[(wa _).1 t next o zfz]at h;simp only at h;split at h
     ·cases h
     ·rename_i Q;subst b;have⟨l,R,O,S⟩:=zp r _ e h;refine⟨t::l,by grind[dn],?_,by grind[aM]⟩;rw[en];refine⟨by omega,⟨?_,?_,?_,?_⟩,O⟩
      ·grind
      ·grind
      ·omega
      grind
theorem zo(M:ah.length<=800):∀(av:List Fn)(next:Nat)(l:List T),dn ah next l->en Qb av next l->jt ah av (next:Int)=some (some ((next+aM l:Nat):Int))
 |[],next,[],_,_=>by rfl
 |f::r,next,t::l,h,m=>by
  rw[dn]at h;rw[en]at m;have N:=dM.le t _ h.1;rw[jt,ik,(Ut M _).1 t next 0 h.1 (bp _) zfz];simp only;rw[ae (by rw[m.2.1.name];grind),ae (by rw[m.2.1.params];decide),(wa _).1 t next h.1 zfz];simp only;rw[ae (by rw[m.2.1.all];rintro(h|h);exact h m.2.1.ai;cases h),zo M r _ l h.2 m.2.2,aM]
  grind
 |[],_,t::l,_,h=>by cases h
 |f::r,_,[],_,h=>by cases h
def xl:∀(av:List Fn)(next:Nat),∃r,jt ah av (next:Int)=some r
 |[],next=>⟨_,by rw[jt]⟩
 |f::r,next=>by
  have⟨e,o,b⟩:=(MU (ah:=ah) (fN ah)).1 next 0 zfz
  rw[jt,ik,o];simp only;split
  ·simp
  ·rename_i W;split
   ·simp
   ·have⟨t,R,O⟩:=(IP _).1 _ _ _ o aH;have N:=dM.le t _ R;rw[(wa _).1 t next R zfz];simp only;split
    ·simp
    ·rw[O];exact xl r _
end
def LZ(p:Src):∃b,pf p=some b:=by
 unfold pf;split
 ·simp
 ·split
  ·simp
  ·have⟨r,h⟩:=xl (ah:=p.ah) p.av 0;rw[show((0:Nat):Int)=0 from rfl]at h;rw[h]
   cases r<;>exact⟨_,rfl⟩
structure eH(p:Src)(l:List T):Prop where
 aq:dq p.aq=true
 aj:p.aj.all kc=true
 st:dn p.ah 0 l
 av:en Qb p.av 0 l
 len:aM l=p.ah.length
 few:p.ah.length<=800
def VH{p:Src}(h:pf p=some true):∃l,eH p l:=by
 unfold pf at h;split at h
 ·cases h
 ·rename_i o;split at h
  ·cases h
  ·rename_i b;rw[show(0:Int)=((0:Nat):Int)from rfl]at h
   cases m:jt p.ah p.av ((0:Nat):Int)with
   |none=>grind
   |some r =>
    rw[m]at h
    cases r with
    |none=>cases h
    |some e =>
     have⟨l,R,O,S⟩:=zp _ _ _ m;simp only[Option.some.injEq,aI,beq_iff_eq,decide_eq_true_eq]at h;exact⟨l,by grind,by grind,R,O,by omega,by omega⟩
def eH.pf{p:Src}{l:List T}(h:eH p l):pf p=some true:=by
 unfold Go.Sp.pf;rw[ae (by rw[h.aq];decide),ae (by rw[h.aj];decide),show(0:Int)=((0:Nat):Int)from rfl,zo h.few _ _ _ h.st h.av];simp only[Option.some.injEq,aI,beq_iff_eq,decide_eq_true_eq];have:=h.len;have:=h.few;omega
def B4{ah:List Nd}:∀(av:List Fn)(next:Nat)(W l:List T)(e:Nat),kG ah av next W=some (l,e)->∃X,l=W++X/\dn ah next X/\en (fun _ _=>True) av next X/\e=next+aM X/\mn X
 |[],next,W,l,e,h=>by rw[kG]at h;grind[dn,en,aM,mn]
 |f::r,next,W,l,e,h=>by
  rw[kG]at h
  cases J:tr ah next with
  |none=>grind
  |some x =>
   have⟨t,w⟩:=x;rw[J]at h;simp only at h;split at h
   ·rename_i i;have⟨a1,F,A⟩:=YF _ _ _ _ J;subst F;have⟨X,m,n,v,B,s⟩:=B4 r _ _ _ _ h
    grind[dn,en,aM,mn]
   ·cases h
def IA{ah:List Nd}{Q:Fn->T->Prop}:∀(av:List Fn)(next:Nat)(W l:List T),dn ah next l->en Q av next l->mn l->kG ah av next W=some (W++l,next+aM l)
 |[],next,W,[],_,_,_=>by rw[kG,aM];simp
 |f::r,next,W,t::l,h,m,v=>by
  rw[dn]at h;rw[en]at m;rw[mn]at v;have N:=dM.le t _ h.1;rw[kG,tr,YS _ t next h.1 v.1 aH];simp only;rw[ak m.1,IA r _ _ l h.2 m.2.2 v.2,aM]
  grind
 |[],_,_,t::l,_,h,_=>by cases h
 |f::r,_,_,[],_,h,_=>by cases h
mutual
def dM.fl{ah:List Nd}:∀(t:T)(a:Nat),dM ah a t->(ah.take (a+aU t)).drop a=dW a t
 |.mk n l,a,h=>by
  have N:=dM.le _ _ h;rw[dM]at h;rw[aU]at N;have o:=dn.fl l (a+1) h.2.2 aH;rw[dW,<-h.2.1,<-o,aU,show a+(aM l+1)=a+1+aM l by omega]
  have b:(ah.take (a+1+aM l))[a]?=some n:=by grind
  have⟨G,C⟩:=bY b;rw[j3 G,C]
def dn.fl{ah:List Nd}:∀(l:List T)(a:Nat),dn ah a l->a<=ah.length->(ah.take (a+aM l)).drop a=bZ a l
 |[],a,h,v=>by
  simp[aM,bZ]
 |t::r,a,h,v=>by
  rw[dn]at h;have N:=dM.le _ _ h.1;have o:=dM.fl t a h.1;have b:=dn.fl r (a+aU t) h.2 N;have W:=dn.le r _ h.2 N;rw[bZ,<-o,<-b,aM,show a+(aU t+aM r)=a+aU t+aM r by omega]
  grind[Nat.min_eq_left,mf,take_append_drop]
end
def dn.all{ah:List Nd}{l:List T}(h:dn ah 0 l)(M:aM l=ah.length):ah=bZ 0 l:=by
 have:=dn.fl l 0 h (bp _)
 grind
def n5(n:Int):ab:=if n<0 then 45::hY n.natAbs else hY n.toNat
def tS(s:ab):Int:=match levels.findIdx? (fun l=>l.contains s)with|some i=>(i:Int)|none => -1
def vj(b:Bool)(x:ab):ab:=if b=true then(40::x)++[41]else x
def oZ(t:T)(C:Int):Bool:=(t.n.ai==6)&&decide (tS t.n.s<C)
def wc(n:Nd)(l:List T)(x:List ab):ab :=
 if n.ai=1 then n5 n.n
 else if n.ai=3 then((n.s++[91])++x.getD 0 [])++[93]
 else if n.ai=4 then((n.s++[40])++cE x)++[41]
 else if n.ai=5 then(n.s++[32])++(match l with|a::_=>vj (a.n.ai==6) (x.getD 0 [])|[]=>[])
 else if n.ai=6 then(match l with
  |a::b::_=>(((vj (oZ a (tS n.s)) (x.getD 0 [])++[32])++n.s)++[32])++vj (oZ b (tS n.s+1)) (x.getD 1 [])
  |_=>[])
 else n.s
mutual
def eg:T->ab
 |.mk n l=>wc n l (jm l)
def jm:List T->List ab
 |[]=>[]
 |t::r=>eg t::jm r
end
def PA(t:T):eg t=wc t.n t.aw (jm t.aw):=by cases t;rfl
theorem Kj(l:List T):jm l=l.map eg:=by
 induction l with
 |nil=>rfl
 |cons t l O=>grind[jm]
mutual
def jc:T->Nat
 |.mk n l=>n.s.length+60+gM l
def gM:List T->Nat
 |[]=>0
 |t::r=>jc t+gM r
end
theorem kZ(t:T):jc t=t.n.s.length+60+gM t.aw:=by cases t;rfl
def rS{l:List T}{t:T}(h:t∈l):jc t<=gM l:=by
 induction l with
 |nil=>cases h
 |cons a l O =>
  grind[jc,gM]
theorem FW(l:List T):l.length*60<=gM l:=by
 induction l with
 |nil=>simp
 |cons t l O=>rw[gM,kZ,length_cons];omega
theorem MS{n:Nat}(h:n<100000000000000000000):(hY n).length<=20:=II 19 n aH
theorem ss{n:Int}(h : -9223372036854775808<=n/\n<=9223372036854775807):(n5 n).length<=21:=by
 grind[MS,length_cons,n5]
theorem IB(b:Bool)(x:ab):(vj b x).length<=x.length+2:=by
 grind[vj]
theorem rC:∀(x:List ab),(cE x).length<=(x.map fun y=>y.length+2).sum
 |[]=>by simp[cE]
 |y::r=>by
  simp[cE,ab]
mutual
def qi:T->Prop
 |.mk n l=>(-9223372036854775808<=n.n/\n.n<=9223372036854775807)/\pX l
def pX:List T->Prop
 |[]=>True
 |t::r=>qi t/\pX r
end
def mY(t:T):qi t↔(-9223372036854775808<=t.n.n/\t.n.n<=9223372036854775807)/\pX t.aw:=by cases t;rfl
theorem gx{l:List T}{t:T}(h:pX l)(M:t∈l):qi t:=by
 induction l with
 |nil=>cases M
 |cons a l O =>
  grind[pX]
theorem we:∀(N:Nat)(t:T),aU t<=N->qi t->(eg t).length+4<=jc t:=by
 intro N
 induction N with
 |zero=>grind[eI]
 |succ N Q =>
  intro t C c;rw[eI]at C;rw[mY]at c
  have O:∀a∈t.aw,(eg a).length+4<=jc a:=fun a v=>by
   refine Q a ?_ (gx c.2 v)
   have:∀(l:List T),a∈l->aU a<=aM l:=by
    intro l
    induction l with
    |nil=>simp
    |cons b l z =>
     grind[aU,aM]
   grind
  have w:((jm t.aw).map fun y=>y.length+2).sum<=gM t.aw:=by
   have:∀(l:List T),(∀a∈l,(eg a).length+4<=jc a)->((jm l).map fun y=>y.length+2).sum<=gM l:=by
    intro l
    induction l with
    |nil=>intro _;simp[jm]
    |cons a l z =>
     intro h;have o:=h a (mem_cons_self)
     have d:=z fun b i=>h b (ec _ i)
     rw[jm,gM,List.map_cons,List.sum_cons];omega
   grind
  have q:((jm t.aw).getD 0 []).length<=gM t.aw:=by
   cases M:t.aw with
   |nil=>simp[jm]
   |cons a r =>
    grind[jm]
  have X:∀a b r,t.aw=a::b::r->((jm t.aw).getD 0 []).length+((jm t.aw).getD 1 []).length+8<=gM t.aw:=fun a b r M=>by
   have o:=O a zff;have d:=O b zff;rw[M,jm,jm,gM,gM];grind
  rw[PA,kZ];unfold wc
  grind[ss,br,length_cons,length_nil,rC,IB]
def sD(own:ab)(n:Nd)(k:Nat)(x b:List ab):ab :=
 if n.ai=13 then((([118,97,114,32]++n.s)++[32,61,32])++x.getD 0 [])++[59]
 else if n.ai=7 then((n.s++[32,61,32])++x.getD 0 [])++[59]
 else if n.ai=8 then((((n.s++[91])++x.getD 0 [])++[93,32,61,32])++x.getD 1 [])++[59]
 else if n.ai=9 then(if k=3 then((([105,102,32,40]++x.getD 0 [])++[41,32])++b.getD 1 [])++([32,101,108,115,101,32]++b.getD 2 [])else(([105,102,32,40]++x.getD 0 [])++[41,32])++b.getD 1 [])
 else if n.ai=10 then(([119,104,105,108,101,32,40]++x.getD 0 [])++[41,32])++b.getD 1 []
 else if n.ai=11 then([114,101,116,117,114,110,32]++x.getD 0 [])++[59]
 else if n.ai=12 then x.getD 0 []++[59]
 else own
section
variable(tx:T->ab)(inl:List ab->Nat->ab)
mutual
def gY:Nat->T->ab
 |d,.mk n l=>sD (tx (.mk n l)) n l.length (l.map tx) (kV d l)
def kV:Nat->List T->List ab
 |_,[]=>[]
 |d,t::r=>ko d t::kV d r
def ko:Nat->T->ab
 |d,.mk n l=>inl (sC (d+1) l) d
def sC:Nat->List T->List ab
 |_,[]=>[]
 |d,t::r=>gY d t::sC d r
end
end
section
variable(tx:T->ab)(inl:List ab->Nat->ab)(d:Nat)
def G0(t:T):gY tx inl d t=sD (tx t) t.n t.aw.length (t.aw.map tx) (kV tx inl d t.aw):=by cases t;rw[gY];rfl
def EX(t:T):ko tx inl d t=inl (sC tx inl (d+1) t.aw) d:=by cases t;rw[ko];rfl
def B3(l:List T):kV tx inl d l=l.map (ko tx inl d):=by
 induction l with
 |nil=>rfl
 |cons t l O=>rw[kV,O];rfl
def CO(l:List T):sC tx inl d l=l.map (gY tx inl d):=by
 induction l with
 |nil=>rfl
 |cons t l O=>rw[sC,O];rfl
end
def sJ(T:ab)(l:List ab):ab:=l.foldl (fun T s=>T++(s++[32])) T
def ef(l:List ab)(d:Nat):ab:=sJ [123,32] l++[125]
def kR:List ab->Nat
 |[]=>0
 |s::l=>s.length+1+kR l
theorem rp(l:List ab):∀T,(sJ T l).length=T.length+kR l:=by
 induction l with
 |nil=>intro T;simp[sJ,kR]
 |cons s l O =>
  intro T;have:=O (T++(s++[32]));simp only[sJ,List.foldl_cons,kR,br,length_cons,length_nil]at this |-;omega
def G6(a b:List ab):kR (a++b)=kR a+kR b:=by
 induction a with
 |nil=>simp[kR]
 |cons s a O=>simp only[List.cons_append,kR,O];omega
def Pv(l:List ab)(k:Nat):kR (l.take k)<=kR l:=by
 have:kR l=kR (l.take k)+kR (l.drop k):=by rw[<-G6,take_append_drop]
 omega
def MD(T:ab)(l:List ab)(s:ab):sJ T (l++[s])=sJ T l++(s++[32]):=by simp[sJ]
def VI{l:List ab}{s:ab}(h:s∈l):s.length<=kR l:=by
 induction l with
 |nil=>cases h
 |cons a l O =>
  rw[kR]
  rcases iY h with rfl|h
  ·omega
  ·have:=O h;omega
def FE{l:List ab}{d:Nat}{s:ab}(h:s∈l):s.length<=(ef l d).length:=by
 have o:=VI h;have b:=rp l [123,32];unfold ef;rw[br,b];omega
end Go.Im
