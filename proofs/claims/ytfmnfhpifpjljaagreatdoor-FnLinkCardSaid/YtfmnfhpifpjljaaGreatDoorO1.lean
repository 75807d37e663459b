/- Part 1 of proofs that are told in their last texts. -/
open List (getElem?_append getElem?_cons_zero getElem?_eq_none length_cons length_nil mem_cons_self mem_map tail_cons take_append_drop)
set_option linter.unusedVariables false
set_option linter.unusedSimpArgs false
set_option linter.defProp false
set_option maxRecDepth 100000
namespace Go
section
variable{A B:Prop}
def zaa(h:B)(s:PLift B->A:=by intro hQ;refine kz ?_;refine GL.wk (Wk.freeze (i:=0) rfl rfl rfl (bl _)) ?_;refine GL.wk (Wk.freeze (i:=1) rfl rfl rfl (bl _)) ?_;refine GN (by simp only[oe,nN];rfl) ?_;refine V ?_;exact hQ.1):A:=s ⟨h⟩
def zab(h:B)(s:PLift B->A:=by intro hQ;refine bR ?_;refine V ?_;exact hQ.1):A:=s ⟨h⟩
def zad(h:B)(s:PLift B->A:=by intro hQ;refine iM (by(try simp only[zU,bI,bB,bf,bx,length_cons,length_nil,Nat.reduceAdd,dC,iR,cr]);rfl) (by(try simp only[cons_append,nil_append,oset,lO,bB,bx,bf,eC,List.map_cons,map_nil,Ob.dC,dC,iR,cr]);rfl) ?_;exact hQ.1):A:=s ⟨h⟩
def zae(h:B)(s:PLift B->A:=by intro hQ;refine a7 [0,1,2,3,4,5,6] X ?_;refine V ?_;refine a7 [0,1,5,6] T ?_;exact hQ.1):A:=s ⟨h⟩
def zaf(s:A:=by refine ak func137 ntmps137 ?_;refine I [] j ?_;refine GL.borrow k (fun B K r w l d b=>oH (A:=[_,_,_]) (C:=[]) d b rfl rfl rfl) ?_;refine bh ?_;exact et):A:=s
def zag(s:A:=by generalize tok p 0=tk at *;refine aV (aM 0 45 (.a 45 (.q 46 .nil))) ?_;refine bj ?_;exact ji):A:=s
def zah(h:B)(s:PLift B->A:=by intro hQ;refine a7 [0,1,2,3,4,5,6] X ?_;refine V ?_;refine a7 [0,1,5,6] O ?_;refine V ?_;refine a7 [0,1,2,3,4,5,6] T ?_;refine V ?_;exact hQ.1):A:=s ⟨h⟩
def zai(s:A:=by exact⟨rfl,rfl⟩):A:=s
def zaj(s:A:=by refine V ?_;have W:=fp s G;rw[o]at W;refine I [] W ?_;exact az):A:=s
def zak(h:B)(s:PLift B->A:=by intro hQ;refine bh ?_;refine V ?_;exact hQ.1):A:=s ⟨h⟩
def zal(s:A:=by refine ak func298 ntmps298 ?_;refine zab ?_;refine I [] Q ?_;refine I [] W ?_;refine I [] z ?_;exact eu):A:=s
def zam(s:A:=by rw[t];exact⟨x,⟨_,_,Wk.a6 aC,_,_,rfl,rfl,by omega,j,o,e⟩,by omega⟩):A:=s
def zan(s:A:=by have⟨⟨w,c,m,k,u⟩,l⟩:=t;have⟨o,b,G,M⟩:=fu O;simp only at o b G;subst o b G;obtain⟨x,rfl,hx⟩:=vI M;simp only[E.ok,aZ]at A;rw[E.tree,wt]at i;simp only[gz,lim]at i;have W:=C x A.2 hx (by grind);have N:=(E.len a A.2).2;have v:(bq [x])[0]?=some (cT x):=dK rfl;rw[E.full];generalize a.full=y at *;simp only[cT,T.n,T.aw]at |-;refine ak func322 ntmps322 ?_;refine aV (aM 0 8 (.a 8 (aM 9 3 .nil))) ?_;refine ay ?_;refine aX [] W ?_;exact aK):A:=s
def zao(s:A:=by refine ak func298 ntmps298 ?_;refine zab ?_;refine I [] Q ?_;refine zab ?_;refine I [] Y ?_;refine I [] W ?_;exact eu):A:=s
def zap(h:B)(s:PLift B->A:=by intro hQ;refine I [0] E ?_;refine I [0] j ?_;refine I [0] A ?_;refine I [0] B ?_;refine I [0] F ?_;exact hQ.1):A:=s ⟨h⟩
def zaq(h:B)(s:PLift B->A:=by intro hQ;refine zak ?_;refine GL.q (D.sX rfl) ?_;refine zak ?_;refine GL.q (D.EG (b:=32) rfl rfl aU) ?_;refine bh ?_;refine GL.q (D.AH rfl L) ?_;exact hQ.1):A:=s ⟨h⟩
def zar(h:B)(s:PLift B->A:=by intro hQ;refine de ?_;refine ay ?_;exact hQ.1):A:=s ⟨h⟩
def zas(h:B)(s:PLift B->A:=by intro hQ;refine ch ?_;refine V ?_;exact hQ.1):A:=s ⟨h⟩
def zat(s:A:=by simp only[List.map_cons,map_nil,getD_cons_zero,getD_cons_succ,bp,length_cons,length_nil]at e |-;have C:=r b (by grind) L;generalize w a=x at *;generalize nR w inl d b=y at *;clear r j ih;generalize cB [a,b]=u at *;refine dj func245 ntmps245 ?_;refine zaa ?_;refine aV (.q 0 (aM 4 8 (.a 1 (.q 2 (.q 3 (.a 12 (.q 13 (.q 14 .nil)))))))) ?_;refine ay ?_;refine oz [] s ?_;refine ay ?_;refine aX [] C ?_;exact aK):A:=s
def zau(s:A:=by have⟨⟨z,d,m,k,B⟩,l⟩:=t;have⟨o,c,G,M⟩:=fu N;simp only at o c G;subst o c G;obtain⟨u,rfl,F⟩:=vI M;simp only[S.ok]at A;rw[S.tree,wt]at i;simp only[gz,lim]at i;have v:=qf b (a:=a) A (by grind) u F;have q:=ko b a A;have w:(bq [u])[0]?=some (cT u):=dK rfl;rw[S.bQ];generalize a.out b=O at *;simp only[cT,T.n,T.aw];refine ak func203 ntmps203 ?_;refine I [] v ?_;exact az):A:=s
def zav(s:A:=by rw[e]at j |-;refine ak func151 ntmps151 ?_;refine aV (aM 0 5 (.a 5 (.a 6 (.q 7 .nil)))) ?_;refine ay ?_;refine OA rfl rfl (GL.borrow j (fun B K t w l d c=>iV (A:=[_]) (C:=[_,_,_]) d c rfl rfl) ?_);refine b0 ?_;refine ay ?_;refine OA rfl rfl (GL.borrow E (fun B K t w l d c=>uu (A:=[_,_,_]) (C:=[_]) d c rfl rfl rfl rfl) ?_);refine b0 ?_;refine bj ?_;refine cy ?_;exact⟨rfl,u,z,rfl⟩):A:=s
def zaw(s:A:=by rw[S.tk]at M;obtain⟨t,r,rfl,o,_⟩:=map_cons M;exact⟨t,r,rfl,fun rest=>by rw[sK o];decide⟩):A:=s
def zax(s:A:=by refine V ?_;exact⟨_,_,Wk.a6 aC,gU.next ⟨c,p,_,_,_,_,C,rfl,rfl,G,u,F,e,o⟩⟩):A:=s
def zay(s:A:=by have⟨C,E,j⟩:=j _ _ e;refine ak func169 ntmps169 ?_;refine I [0] M ?_;refine I [0] B ?_;refine I [0] N ?_;refine aV (aM 0 24 .nil) ?_;refine bj ?_;refine I [0] O ?_;refine I [0] (kd b.next 7 b.next.place) ?_;refine I [0] C ?_;refine GL.jw 2 rfl rfl rfl rfl rfl rfl rfl rfl aH ll ?_;intro a c;refine cP ?_;refine V ?_;refine I [0] E ?_;refine dX ?_;exact j _ _ _ m):A:=s
def zaz(h:B)(s:PLift B->A:=by intro hQ;refine I [0] (dk p 0 J aU) ?_;refine I [0] (cX p.next [40] o aU) ?_;refine I [0] (w8 (d+1) _ e A n L G) ?_;refine I [0] (cX A [41] m aU) ?_;refine aV (aM 0 4 (.a 4 (.a 5 (.q 6 .nil)))) ?_;refine ay ?_;exact hQ.1):A:=s ⟨h⟩
def zaB(s:A:=by refine ak func139 ntmps139 ?_;refine I [] q ?_;exact az):A:=s
def zaC(s:A:=by refine ak func36 ntmps36 ?_;refine I [0] o ?_;refine I [0] G ?_;exact az):A:=s
def zaD(s:A:=by have e:=gq code 8 b C u;have E:=eJ code b (n:=8) L;generalize bF code 8 b=a at *;have⟨j,t⟩:=a;simp only at e E |-;obtain⟨m,rfl⟩:∃m:Nat,j=(m:Int):=⟨j.toNat,by omega⟩;have W:=ot (l:=zP) (m:=m) (by show m<8;omega);refine ak func174 ntmps174 ?_;refine I [0] z ?_;refine zab ?_;refine I [0] e ?_;exact az):A:=s
def zaE(s:A:=by refine I [] W ?_;refine bA ?_;exact⟨by rfl,rfl⟩):A:=s
def zaF(s:A:=by grind[S.bQ,S.tree,gz,bp,length_cons,length_nil,bQ,wt,tree]):A:=s
def zaG(s:A:=by exact⟨_,_,d,⟨z,rfl,J⟩,.pass (x:=.inLoop c) rfl (fun _ _=>.inl (by simp)) T⟩):A:=s
def zaH(s:A:=by exact⟨_,gy,rfl,rfl⟩):A:=s
def zaI(h:B)(s:PLift B->A:=by intro hQ;refine I [] e ?_;refine I [] d ?_;refine I [] w ?_;refine I [] m ?_;refine bA ?_;exact hQ.1):A:=s ⟨h⟩
def zaJ(h:B)(s:PLift B->A:=by intro hQ;refine V ?_;refine aV (aM 0 7 (.a 7 (aM 8 4 (.q 13 (.q 16 (.a 12 (.q 14 (.q 15 (.a 17 (.q 18 (.a 19 (.q 20 .nil)))))))))))) ?_;exact hQ.1):A:=s ⟨h⟩
def zaK(h:B)(s:PLift B->A:=by intro hQ;refine ay ?_;refine OQ rfl (D.jg 7 rfl rfl rfl j o) ?_;refine lx ?_;refine ay ?_;exact hQ.1):A:=s ⟨h⟩
def zaL(s:A:=by have⟨r,z,s⟩:=List.mem_flatten.1 (bN O);exact(C r z).2 g s):A:=s
def zaM(h:B)(s:PLift B->A:=by intro hQ;refine b0 ?_;refine bj ?_;exact hQ.1):A:=s ⟨h⟩
def zaN(h:B)(s:PLift B->A:=by intro hQ;refine aV (aM 0 10 .nil) ?_;refine bj ?_;exact hQ.1):A:=s ⟨h⟩
def zaO(s:A:=by rw[<-O]at A |-;simp only[execOp,eqGuard,h,k,binOp,Op.intBits];exact congrArg (fun z:Int=>Result.ok (Next.value (Value.int .u32 z)) w) A):A:=s
def zaP(h:B)(s:PLift B->A:=by intro hQ;refine I [0] Z ?_;refine I [0] m ?_;refine I [0] O ?_;refine I [0] B ?_;exact hQ.1):A:=s ⟨h⟩
def zaQ(s:A:=by unfold iG at F m;generalize S.ei (E.out b) [123,32] p++[125]=X at *;simp only[cT,T.n,T.aw];refine ak func203 ntmps203 ?_;refine aV (aM 0 5 (aM 8 5 (.a 5 (.q 6 (.q 7 (.a 13 (.q 14 (.q 15 .nil)))))))) ?_;refine ay ?_;refine aX [] z ?_;refine aX [] F ?_;exact aK):A:=s
def zaR(h:B)(s:PLift B->A:=by intro hQ;refine I [] N ?_;refine I [] Q ?_;refine I [] q ?_;refine I [] o ?_;refine I [] R ?_;exact hQ.1):A:=s ⟨h⟩
def zaS(s:A:=by refine GL.jw 2 rfl rfl rfl rfl rfl rfl rfl rfl aH ll ?_;intro a c;refine cP ?_;rw[m,o];refine V ?_;refine zab ?_;refine I [0] (fV b [59] (hx { st with au:=st.au++[s] } { h with aG:=a,cG:=c }) d) ?_;refine cy ?_;exact⟨rfl,{ h with aG:=a,cG:=c },rfl⟩):A:=s
def zaT(s:A:=by have s:=j 0 a (by grind);rw[o]at e |-;rw[o]at s;simp only[List.map_cons,map_nil,getD_cons_zero,bp,length_cons,length_nil]at e |-;generalize w a=x at *;generalize cB [a]=u at *;refine dj func245 ntmps245 ?_;refine zaa ?_;refine mi [] s ?_;exact aK):A:=s
def zaU(s:A:=by refine aV (aM 0 7 (.a 7 (.a 8 (.a 9 (.q 10 .nil))))) ?_;refine ay ?_;refine aX [0] n ?_;refine zar ?_;refine aX [] e ?_;exact aK):A:=s
def zaW(h:B)(s:PLift B->A:=by intro hQ;refine V ?_;refine bA ?_;exact hQ.1):A:=s ⟨h⟩
def zaX(h:B)(s:PLift B->A:=by intro hQ;refine GL.l8 rfl rfl ?_;refine zak ?_;exact hQ.1):A:=s ⟨h⟩
def zaY(s:A:=by refine I [] W ?_;exact az):A:=s
def zaZ(h:B)(s:PLift B->A:=by intro hQ;refine V ?_;refine aV (aM 0 10 (.a 10 (.q 11 (.q 12 .nil)))) ?_;exact hQ.1):A:=s ⟨h⟩
def za0(s:A:=by refine ak func232 ntmps232 ?_;refine zae ?_;exact et):A:=s
def za1(s:A:=by obtain⟨g,rfl,o,j⟩:=pg z;rw[iS,u,ai A.code,ab F,ab J,ab R,ab B,H g j];grind):A:=s
def za2(h:B)(s:PLift B->A:=by intro hQ;rw[rs,ab aO];simp only;rw[ab (by rw[j];decide),ai (.inl j),tail_cons,k2];exact hQ.1):A:=s ⟨h⟩
def za3(h:B)(s:PLift B->A:=by intro hQ;refine V ?_;refine aV (aM 0 8 (.a 8 (.q 9 (.q 10 .nil)))) ?_;refine ay ?_;refine bW [] hA ?_;exact hQ.1):A:=s ⟨h⟩
def za4(s:A:=by rw[ai hx]at h;have⟨y,u,d,h⟩:=cV h;simp only[Option.some.injEq,Prod.mk.injEq]at h;obtain⟨rfl,rfl⟩:=h;exact ST L (sM i J j (fun h=>absurd h e) fun E=>.inl ⟨hx,y,aaS 1 _ _ _ y g L (lu L) z E d⟩)):A:=s
def za5(s:A:=by exact eX (Q a) fun v t q=>eO (fun _=>⟨_,_,rfl,q⟩) fun _=>⟨_,_,rfl,q⟩):A:=s
def za6(h:B)(s:PLift B->A:=by intro hQ;refine pS ?_;refine GL.A6 rfl rfl rfl rfl rfl rfl rfl ?_;refine zak ?_;exact hQ.1):A:=s ⟨h⟩
def za7(s:A:=by refine I [0] B ?_;refine zab ?_;refine I [0] hw ?_;refine I [0] o ?_;refine nF ?_;refine V ?_;refine zab ?_;refine I [0] u ?_;refine I [0] A ?_;refine eI ?_;refine V ?_;refine GL.wk (Wk.jJ (t:=108) rfl rfl rfl rfl) ?_;refine cP ?_;refine I [] n ?_;exact az):A:=s
def za8(h:B)(s:PLift B->A:=by intro hQ;refine kz ?_;refine GL.wk (Wk.freeze (i:=3) rfl rfl rfl (a8 _)) ?_;refine GN (by simp only[oe,nN];rfl) ?_;refine GL.wk (Wk.a6 (c8:=[U,.v (ii (i:Nat)),U,.box (aB p) 0,U,.loc 4 0,U,U,U,U,U,U,U,strs f.params,U,U,U,U,U,U,U,U,U,U]) aC) ?_;refine GL.wk (Wk.eS 9 1) ?_;exact hQ.1):A:=s ⟨h⟩
def za9(s:A:=by unfold mS at *;unfold dp at *;refine ak func176 ntmps176 ?_;refine zaN ?_;refine a7 [0,1,2,3,4,5,6] k ?_;exact aK):A:=s
def zba(s:A:=by refine WL.val (v:=.slice (some ⟨w.heap.size,0,none⟩) n n) (w':=w') (by simp[execOp,T,hr]) ?_;exact h _ _ B K _ w' _ hm C ((Y.mono (c6.refl K) (iT (by rw[Z.out _ (a8 _)];trivial))).put (some J) (.v _))):A:=s
def zbb(h:B)(s:PLift B->A:=by intro hQ;refine aV (aM 0 13 (.a 13 (.q 14 .nil))) ?_;refine ay ?_;refine aX [] e ?_;refine V ?_;refine a7 [0,1,2,3,4,5,6] Z ?_;refine V ?_;exact hQ.1):A:=s ⟨h⟩
def zbc(s:A:=by refine zak ?_;refine GL.q (D.CR rfl) ?_;refine bh ?_;refine GL.q (D.Dw rfl (mN _)) ?_;refine bh ?_;exact aK):A:=s
def zbd(s:A:=by refine V ?_;refine GL.jw 0 rfl rfl rfl rfl rfl rfl rfl rfl aH ll ?_;intro G M;refine cP ?_;refine V ?_;exact⟨rfl,rfl,_,_,(Wk.cut (n:=2) (bl _) rfl).trans (Wk.a6 aC),G,M,_,_,rfl,rfl,by simp[O],l.symm⟩):A:=s
def zbe(h:B)(s:PLift B->A:=by intro hQ;simp only[cons_append,nil_append];exact hQ.1):A:=s ⟨h⟩
def zbf(h:B)(s:PLift B->A:=by intro hQ;refine aV (aM 0 21 (.a 21 (aM 22 13 (.a 35 (.q 36 (.q 37 .nil)))))) ?_;exact hQ.1):A:=s ⟨h⟩
def zbg(h:B)(s:PLift B->A:=by intro hQ;refine V ?_;refine aV (aM 0 4 (.a 4 (.q 5 (.q 6 (.a 7 .nil))))) ?_;refine ay ?_;refine jz [0] H ?_;simp only[gL];refine zaK ?_;exact hQ.1):A:=s ⟨h⟩
def zbh(s:A:=by refine ak func139 ntmps139 ?_;refine I [] q ?_;refine I [] t ?_;exact az):A:=s
def zbi(s:A:=by refine ak func298 ntmps298 ?_;refine I [] W ?_;exact eu):A:=s
def zbj(s:A:=by refine aV (aM 0 33 (.a 33 (.q 34 (.q 35 .nil)))) ?_;refine ay ?_;exact bg ⟨_,_,Wk.a6 aC,rfl,rfl⟩):A:=s
def zbk(s:A:=by rw[ai rfl];have e:=w b u;have O:=mx code d b;generalize jG code d b=a at *;have⟨s,t⟩:=a;simp only at e O |-;refine ak func174 ntmps174 ?_;refine I [0] z ?_;refine I [0] e ?_;exact az):A:=s
def zbl(h:B)(s:PLift B->A:=by intro hQ;unfold gI lP lR ef;rw[ab (show ¬(T.mk n l).n.s=_ from r),ab (show ¬(T.mk n l).n.s=_ from J),ab (show ¬(T.mk n l).n.s=_ from W)];show(match p.av.findIdx? (fun f:Go.Sp.Fn=>f.name==n.s)with|none=>_|some i=>_)=_;rw[hx];exact hQ.1):A:=s ⟨h⟩
def zbm(s:A:=by exact⟨_,_,Wk.a6 aC,rfl,rfl,fun j x y h=>by omega⟩):A:=s
def zbn(s:A:=by simp only[bY]at h;exact ft (a:=0) (b:=0) aO (Q _ _) (fun v t y u=>eN Z (fun h=>by grind[Dq])) h):A:=s
def zbo(s:A:=by rw[show(st.av.map qS).length+[qS (s,b)].length=(st.av++[(s,b)]).length by simp,<-vU qS st.av (s,b)];refine bj ?_;refine cy ?_;exact⟨rfl,{ h with aT:=Y,cT:=c3,aF:=Z,cF:=c4 },rfl⟩):A:=s
def zbp(s:A:=by refine ak func232 ntmps232 ?_;refine zae ?_;refine V ?_;refine a7 [0,1,2,3,4,5,6] W ?_;exact et):A:=s
def zbq(h:B)(s:PLift B->A:=by intro hQ;refine V ?_;refine aV (aM 0 6 (.q 7 (.q 10 (.a 6 (.q 8 (.q 9 (.a 11 (.a 12 (.q 13 .nil))))))))) ?_;refine ay ?_;refine bW [] jZ ?_;refine bW [0] (dk p 0 W aU) ?_;refine bW [] (jR (levels.getD k []) (p.aJ 0) (AZ k N)) ?_;exact hQ.1):A:=s ⟨h⟩
def zbr(s:A:=by exact .inr ⟨x,rfl,c.tr (y:=.error x) S⟩):A:=s
def zbs(s:A:=by refine I [0] (cX o [59] j aU) ?_;refine zab ?_;refine I [] (iP 12 at_ [] [e] _ oN) ?_;exact ln):A:=s
def zbt(h:B)(s:PLift B->A:=by intro hQ;refine cP ?_;refine V ?_;exact hQ.1):A:=s ⟨h⟩
def zbu(h:B)(s:PLift B->A:=by intro hQ;refine b0 ?_;refine ay ?_;exact hQ.1):A:=s ⟨h⟩
def zbv(s:A:=by refine⟨one (if is p 0 gk=true then 9 else 10) (tok p 0).at_ [] [c,b],q2,fun g z=>?_,by grind,O⟩;obtain⟨g,rfl,o,j⟩:=pg z;rw[iS,u,ai A.code,ab F,ai J,H g j];grind):A:=s
def zbw(s:A:=by refine ak func374 ntmps374 ?_;refine I [0] o ?_;refine aV (aM 0 17 .nil) ?_;refine bj ?_;refine I [0] (j0 H e) ?_;refine I [0] (kd H 7 H.place) ?_;refine pF ?_;exact zaH):A:=s
def zbx(h:B)(s:PLift B->A:=by intro hQ;refine bh ?_;simp only[nil_append,length_nil,dy];refine V ?_;exact hQ.1):A:=s ⟨h⟩
def zby(s:A:=by exact this.trans (dc (this.ok W) _)):A:=s
def zbz(s:A:=by refine V ?_;exact⟨rfl,rfl,_,_,Wk.a6 aC,rfl,rfl,by grind⟩):A:=s
def zbB(s:A:=by refine⟨s++t,by grind,?_⟩;rw[gK]at C |-;rw[bp]at C |-;rw[<-kA];exact b.app C):A:=s
def zbC(s:A:=by have⟨o,_⟩:=fu M;simp only[T.n,o,nK];rfl):A:=s
def zbD(s:A:=by have:=M.len;have:=BS p i f t L (fun n h=>by have:=(W n h).2;omega) L L L o (by have:=(R f (bN o)).2.1;omega) L (by rw[j];exact Q) L;rw[j]at this;exact this):A:=s
def zbE(h:B)(s:PLift B->A:=by intro hQ;refine aV (aM 0 3 (.a 3 (.a 4 (.a 5 (.q 6 (.a 7 .nil)))))) ?_;refine ay ?_;exact hQ.1):A:=s ⟨h⟩
def zbF(s:A:=by rw[ai e]at h;simp only[Option.some.injEq,Prod.mk.injEq]at h;obtain⟨rfl,rfl⟩:=h;exact ST L (qW i (.inl Q) j (fun _=>rfl) fun h=>absurd h (by grind))):A:=s
def zbG(h:B)(s:PLift B->A:=by intro hQ;refine eI ?_;refine V ?_;exact hQ.1):A:=s ⟨h⟩
def zbH(h:B)(s:PLift B->A:=by intro hQ;refine GL.jw 1 rfl rfl rfl rfl rfl rfl rfl rfl aH ll ?_;exact hQ.1):A:=s ⟨h⟩
def zbI(s:A:=by refine ay ?_;exact aK):A:=s
def zbJ(h:B)(s:PLift B->A:=by intro hQ;simp only[Bool.false_eq_true,if_false];exact hQ.1):A:=s ⟨h⟩
def zbK(h:B)(s:PLift B->A:=by intro hQ;refine ay ?_;refine OA rfl rfl ?_;exact hQ.1):A:=s ⟨h⟩
def zbL(h:B)(s:PLift B->A:=by intro hQ;refine aV (aM 0 4 (.q 6 (.f 4 (.f 5 (.a 7 (.a 8 (.a 9 (.q 10 (.q 11 .nil))))) 7 (.a 5 (.a 8 (.a 9 (.q 10 (.q 11 .nil)))))) 7 (.a 4 (.a 5 (.a 8 (.a 9 (.q 10 (.q 11 .nil))))))))) ?_;refine ay ?_;exact hQ.1):A:=s ⟨h⟩
def zbM(s:A:=by grind[Value.ownBlock]):A:=s
def zbN(s:A:=by rw[ai e]at h;simp only[Option.some.injEq,Prod.mk.injEq]at h;obtain⟨rfl,rfl⟩:=h;exact ST L (sM i J j (fun _=>rfl) fun h=>absurd h (by grind))):A:=s
def zbO(s:A:=by refine zbG ?_;exact⟨rfl,rfl,_,_,Wk.a6 aC,_,_,_,rfl,rfl,by simp[e],b.symm⟩):A:=s
def zbP(s:A:=by refine ak func230 ntmps230 ?_;refine zah ?_;refine a7 [0,1,5,6] z ?_;exact aK):A:=s
def zbQ(s:A:=by exact this.trans (bU (this.ok G) aD)):A:=s
def zbR(s:A:=by refine kz ?_;refine GL.wk (Wk.freeze (i:=1) rfl rfl rfl (bl _)) ?_;refine GN (by simp only[oe,nN];rfl) ?_;refine V ?_;refine I [] h ?_;exact az):A:=s
def zbS(s:A:=by refine zbu ?_;refine bg ⟨_,_,(Wk.freeze (i:=5) rfl rfl rfl (eF rfl)).trans ((Wk.cut (n:=4) (eF rfl) rfl).trans (Wk.a6 aC)),[],rfl,rfl,rfl⟩):A:=s
def zbT(s:A:=by simp only[bY]at h;exact en q (Q _ _) (fun v t y u=>dT (bK (T _)) (dT (bK (T _)) (en q (Q _ _) (fun v t y u=>dT (bK (T _)) (bK (T _)))))) h):A:=s
def zbU(s:A:=by refine ak func207 ntmps207 ?_;refine aV (aM 0 7 (.a 7 (.q 8 .nil))) ?_;refine ay ?_;refine aX [] O ?_;refine V ?_;refine I [0] Q ?_;exact az):A:=s
def zbV(s:A:=by rw[o]at G;refine V ?_;refine jW [] G ?_;refine V ?_;exact⟨rfl,rfl,_,_,(Wk.cut (n:=0) (a8 _) rfl).trans (Wk.a6 aC),rfl,rfl,mQ t z H o⟩):A:=s
def zbW(h:B)(s:PLift B->A:=by intro hQ;refine ew ?_;refine V ?_;exact hQ.1):A:=s ⟨h⟩
def zbX(s:A:=by refine iM dd eb ?_;refine bj ?_;exact⟨_,_,Wk.a6 aC,gU.put { x with s:=sg } hx rfl (by grind) (e.ae x (bN hx)) (fun _=>rfl) E u F e o⟩):A:=s
def zbY(s:A:=by rw[E.bQ,E.full,E.tree,wt];simp only[gz,bp,length_cons,length_nil];omega):A:=s
def zbZ(s:A:=by simp only[S.ok,aZ]at h;have d:=E.iu c h.1;have G:=lM c;have C:=S.uM b h.2;rw[S.tree,ed,dA,dA,dA,d,C];simp[cL,own,T.n,T.aw,bX];exact G):A:=s
def zb0(s:A:=by refine I [] m ?_;exact az):A:=s
def zb1(s:A:=by refine zas ?_;refine bP [] (uE s L) ?_;rintro _ _⟨rfl,p,Z,b,l,d,rfl⟩;refine zas ?_;refine dX ?_;exact⟨M,p,S,by omega,d,rfl,rfl⟩):A:=s
def zb2(s:A:=by refine ak func200 ntmps200 ?_;refine I [] Q ?_;refine I [] c ?_;exact az):A:=s
def zb3(s:A:=by refine ak func230 ntmps230 ?_;refine a7 [0,1,2,3,4,5,6] X ?_;refine V ?_;refine a7 [0,1,5,6] O ?_;refine V ?_;refine I [] w ?_;exact az):A:=s
def zb4(s:A:=by simp only[bY]at h;exact ft (a:=0) (b:=0) aO (Q _ _) (fun v t y u=>eN Z (eN Z (ft (a:=0) (b:=0) aO (Q _ _) (fun v t y u=>eN Z Z)))) h):A:=s
def zb5(h:B)(s:PLift B->A:=by intro hQ;refine I [] e ?_;refine I [] d ?_;exact hQ.1):A:=s ⟨h⟩
def zb6(h:B)(s:PLift B->A:=by intro hQ;refine GL.q (D.sX rfl) ?_;refine zaq ?_;refine zak ?_;exact hQ.1):A:=s ⟨h⟩
def zb7(s:A:=by exact⟨rfl,rfl,_,_,Wk.a6 aC,rfl,rfl⟩):A:=s
def zb8(s:A:=by refine I [0] o ?_;refine zbG ?_;exact⟨(g,W++[a],Y),⟨_,_,Wk.a6 aC,_,_,rfl,rfl,by simp[k],by rw[vg,R],by omega,G,h⟩,by simp⟩):A:=s
def zb9(s:A:=by rw[X]at Q;refine ak func198 ntmps198 ?_;refine I [] J ?_;refine I [] z ?_;refine I [] N ?_;refine I [] Q ?_;refine mV ?_;exact zai):A:=s
def zca(h:B)(s:PLift B->A:=by intro hQ;refine ay ?_;refine zar ?_;exact hQ.1):A:=s ⟨h⟩
def zcb(s:A:=by simp only[Option.some.injEq,Prod.mk.injEq,true_and]at h;subst h;unfold mS at *;unfold dp at *;refine V ?_;refine zae ?_;exact et):A:=s
def zcc(s:A:=by exact⟨1,⟨_,_,Wk.a6 aC,rfl,rfl,by omega,l 1 rfl M⟩,by omega⟩):A:=s
def zcd(h:B)(s:PLift B->A:=by intro hQ;rw[rs,ab aO];simp only;rw[ab (c _ aD),ab (fun h=>h.elim (c _ aD) (c _ aD)),ab (c _ aD)];exact hQ.1):A:=s ⟨h⟩
def zce(s:A:=by rw[S.tk]at M;obtain⟨t,r,rfl,o,_⟩:=map_cons M;have⟨o,_⟩:=qd o;exact⟨t,r,rfl,fun rest=>⟨jS o aD,jS o aD⟩⟩):A:=s
def zcf(s:A:=by refine V ?_;refine zbG ?_;exact⟨rfl,rfl,_,_,(Wk.cut (n:=3) (eF rfl) rfl).trans (Wk.a6 aC),_,_,rfl,rfl,by simp[c],b.symm⟩):A:=s
def zcg(s:A:=by refine V ?_;refine zbG ?_;exact⟨rfl,rfl,_,_,(Wk.cut (n:=2) (bl _) rfl).trans (Wk.a6 aC),_,_,rfl,rfl,by simp[O],l.symm⟩):A:=s
def zch(s:A:=by exact eZ (Q _ _ _ z.1 h) fun n u C q=>gH q (bT _ q) (pd (bT _ q) (eZ (Q _ _ _ z.2 q) fun m w A T=>gH T (bT _ T) (bT _ T)))):A:=s
def zcj(s:A:=by refine cy ?_;simp):A:=s
def zck(s:A:=by refine bj ?_;exact⟨rfl,rfl,_,_,Wk.a6 aC,rfl,rfl,mQ t z H o⟩):A:=s
def zcl(h:B)(s:PLift B->A:=by intro hQ;refine bg ?_;refine V ?_;exact hQ.1):A:=s ⟨h⟩
def zcm(s:A:=by refine V ?_;refine I [] W ?_;exact⟨rfl,rfl,_,_,(Wk.cut (n:=0) (eF rfl) rfl).trans (Wk.a6 aC),_,rfl,rfl,by grind⟩):A:=s
def zcn(h:B)(s:PLift B->A:=by intro hQ;refine V ?_;refine I [0] (dk p 0 W aU) ?_;exact hQ.1):A:=s ⟨h⟩
def zco(s:A:=by refine V ?_;have W:=gw (.mk ⟨5,a,0,s,ks⟩ l) 1 M;exact zaY):A:=s
def zcp(s:A:=by rw[i]at h;rw[hit i];refine V ?_;refine mi [] h ?_;exact aK):A:=s
def zcq(s:A:=by generalize tok p 0=tk at *;refine V ?_;refine zab ?_;refine I [0] N ?_;refine zab ?_;refine I [] w ?_;exact az):A:=s
def zcr(h:B)(s:PLift B->A:=by intro hQ;refine V ?_;refine I [] e ?_;exact hQ.1):A:=s ⟨h⟩
def zcs(h:B)(s:PLift B->A:=by intro hQ;refine V ?_;refine I [] u ?_;exact hQ.1):A:=s ⟨h⟩
def zct(h:B)(s:PLift B->A:=by intro hQ;refine aV (aM 0 6 (.a 6 (.a 7 (.a 8 (.q 9 (.q 10 (.a 11 .nil))))))) ?_;refine ay ?_;exact hQ.1):A:=s ⟨h⟩
def zcu(s:A:=by refine GL.wk (Wk.rm (i:=2) (o:=5) rfl rfl rfl rfl c) ?_;refine cP ?_;refine I [0] (cX p [125] W aU) ?_;exact ln):A:=s
def zcv(s:A:=by exact this.trans (o _ _ _ _ (this.ok W) h)):A:=s
def zcw(s:A:=by simp only[S.ok]at h;have d:=E.iu a h;have G:=lM a;rw[S.tree,ed,dA,dA,d];simp[cL,own,T.n,T.aw,bX];exact G):A:=s
def zcx(s:A:=by subst j;refine V ?_;refine aV (aM 0 8 (.a 8 (.q 9 (.q 10 .nil)))) ?_;refine bj ?_;refine I [0] E ?_;exact ji):A:=s
def zcy(s:A:=by refine zbH ?_;intro o q;refine zbt ?_;exact⟨rfl,rfl,_,_,Wk.a6 aC,o,q,_,_,_,rfl,rfl,by simp[d],e.symm⟩):A:=s
def zcz(s:A:=by refine ak func230 ntmps230 ?_;refine zah ?_;refine a7 [0,1,5,6] z ?_;refine V ?_;refine I [] B ?_;exact az):A:=s
def zcA(h:B)(s:PLift B->A:=by intro hQ;refine aV (.q 0 (.q 1 (.q 3 (.q 4 (.a 2 (.a 5 (.q 6 .nil))))))) ?_;refine ay ?_;exact hQ.1):A:=s ⟨h⟩
def zcB(s:A:=by exact⟨fun t r h=>(by cases h),fun _ h=>(by cases h)⟩):A:=s
def zcC(s:A:=by grind[bp,length_cons,length_nil]):A:=s
def zcD(s:A:=by refine I [] Q ?_;exact az):A:=s
def zcE(s:A:=by refine V ?_;exact⟨rfl,rfl,_,_,(Wk.cut (n:=1) (bl _) rfl).trans (Wk.a6 aC),rfl,rfl,by rw[l,o,i];rfl⟩):A:=s
def zcF(s:A:=by refine I [] h ?_;exact az):A:=s
def zcG(s:A:=by refine⟨N,C.tr e,fun G=>?_⟩;obtain⟨u,r,rfl,_,_⟩:=map_cons o;rw[length_cons,<-kA,qI W H,n];simp):A:=s
def zcH(s:A:=by exact h B K _ Z _ j F ((O.mono (c6.refl K) (iT (by rw[i.out _ (a8 _)];trivial))).put d (.loc _ 0 b bV))):A:=s
def zcI(s:A:=by simp only;obtain⟨g,rfl⟩:∃F,g=F+1:=⟨g-1,by omega⟩;rw[pM,ab (by rw[mg z];decide),iQ z aD]):A:=s
def zcJ(h:B)(s:PLift B->A:=by intro hQ;refine aV (aM 0 10 (.a 10 (.a 11 .nil))) ?_;refine bj ?_;exact hQ.1):A:=s ⟨h⟩
def zcL(s:A:=by refine ak func198 ntmps198 ?_;refine I [] J ?_;refine I [] z ?_;refine I [] i ?_;refine mV ?_;exact zai):A:=s
def zcM(h:B)(s:PLift B->A:=by intro hQ;refine aV (aM 0 7 (.a 7 (.a 8 (.q 9 (.q 10 (.a 11 .nil)))))) ?_;refine zca ?_;exact hQ.1):A:=s ⟨h⟩
def zcN(s:A:=by simp only[S.ok,aZ]at h;have i:=uL b h.2 d;rw[S.tree,lj,List.map_cons,ky c h.1,p6,p6,p6,i,S.bQ];rfl):A:=s
def zcO(s:A:=by rw[R.fit]at h;rw[R.cl];exact⟨a.gn h.1,b.gn h.2⟩):A:=s
def zcP(h:B)(s:PLift B->A:=by intro hQ;refine GL.jw 0 rfl rfl rfl rfl rfl rfl rfl rfl aH ll ?_;exact hQ.1):A:=s ⟨h⟩
def zcQ(s:A:=by have⟨T,F⟩:=a;simp only at e j o u C;refine V ?_;refine I [0] G ?_;refine I [0] u ?_;exact zam):A:=s
def zcR(s:A:=by rw[E.tree,fS,eH,eH];exact⟨fun h=>absurd h (by simp),fun h=>absurd h (by simp),E.wf a,trivial⟩):A:=s
def zcS(h:B)(s:PLift B->A:=by intro hQ;refine V ?_;refine aV (aM 0 9 .nil) ?_;exact hQ.1):A:=s ⟨h⟩
def zcT(h:B)(s:PLift B->A:=by intro hQ;unfold pZ b9;refine zbe ?_;refine V ?_;exact hQ.1):A:=s ⟨h⟩
def zcU(s:A:=by simp[nG,E.z,trivial,zT,S.tree]):A:=s
def zcV(s:A:=by rw[ab aU]at h;subst h;refine ak func152 ntmps152 ?_;refine I [] Q ?_;refine I [] R ?_;exact az):A:=s
def zcW(s:A:=by rw[R.fit]at h;rw[R.cl];exact a.gn h):A:=s
def zcX(h:B)(s:PLift B->A:=by intro hQ;refine V ?_;refine aV (aM 0 7 (.a 7 (.a 8 (.a 9 .nil)))) ?_;refine zca ?_;exact hQ.1):A:=s ⟨h⟩
def zcY(s:A:=by refine I [0] Q ?_;exact az):A:=s
def zcZ(s:A:=by refine ew ?_;exact aK):A:=s
def zc0(s:A:=by refine zbW ?_;refine lG ?_;exact qb (n:=1) rfl (by simp) rfl (eF rfl) rfl rfl ⟨_,rfl,rfl⟩):A:=s
def zc1(h:B)(s:PLift B->A:=by intro hQ;refine aV (aM 0 24 .nil) ?_;refine bj ?_;refine I [0] (j0 p X) ?_;refine I [0] (kd p 7 p.place) ?_;refine bA ?_;rw[RS.name,ai W,M];exact hQ.1):A:=s ⟨h⟩
def zc2(s:A:=by exact⟨rfl,rfl,_,_,(Wk.cut (n:=0) (a8 _) rfl).trans (Wk.a6 aC),rfl,rfl,by simpa using l⟩):A:=s
def zc3(h:B)(s:PLift B->A:=by intro hQ;refine a7 [0,1,2,3,4,5,6] m ?_;refine V ?_;refine GL.q (D.N6 rfl rfl) ?_;exact hQ.1):A:=s ⟨h⟩
def zc4(s:A:=by rw[ai (.inr (by grind))]at j;subst j;refine za3 ?_;refine V ?_;refine I [0] E ?_;exact ji):A:=s
def zc5(s:A:=by rw[ai rfl]at h;refine ak func152 ntmps152 ?_;refine I [] Q ?_;refine I [] R ?_;exact zb0):A:=s
def zc6(s:A:=by refine I [] e ?_;exact az):A:=s
def zc7(s:A:=by refine I [0] o ?_;refine zab ?_;refine I [0] u ?_;refine zab ?_;refine I [] n ?_;exact az):A:=s
def zc8(h:B)(s:PLift B->A:=by intro hQ;refine GL.q (D.UT rfl rfl) ?_;refine bh ?_;refine GL.q (D.To rfl rfl) ?_;refine zak ?_;refine aV (aM 0 13 .nil) ?_;refine ay ?_;exact hQ.1):A:=s ⟨h⟩
def zc9(s:A:=by exact ud f _ _ _ _ (fun k d o e=>by cases e) h G):A:=s
def zda(s:A:=by refine GL.wk (Wk.jJ (t:=108) rfl rfl rfl rfl) ?_;refine cP ?_;refine I [] n ?_;exact az):A:=s
def zdb(s:A:=by refine lG ?_;exact qb (n:=6) rfl (by simp) rfl (bl _) rfl rfl ⟨rfl,H,C.leave u,rfl⟩):A:=s
def zdc(s:A:=by simpa using this):A:=s
def zdd(s:A:=by rw[S.tree,kV,fw,fw];simp_all[px,E.sx,trivial]):A:=s
def zde(s:A:=by exact .inl ⟨rfl,rfl,rfl,by simp,fun k hk _=>Below.heap_alloc _ _ _ (by simp_all)⟩):A:=s
def zdg(h:B)(s:PLift B->A:=by intro hQ;refine zap ?_;refine I [0] S ?_;refine I [0] hn ?_;exact hQ.1):A:=s ⟨h⟩
def zdh(s:A:=by simp only[Option.some.injEq,Prod.mk.injEq]at h;obtain⟨rfl,rfl⟩:=h;exact ST L B):A:=s
def zdi(h:B)(s:PLift B->A:=by intro hQ;rw[rs,ab aO];simp only;exact hQ.1):A:=s ⟨h⟩
def zdj(s:A:=by refine zaZ ?_;refine ay ?_;refine bW [] hG ?_;refine V ?_;refine I [0] M ?_;exact ji):A:=s
def zdk(h:B)(s:PLift B->A:=by intro hQ;unfold cC;refine V ?_;refine aV (aM 0 6 (.a 6 .nil)) ?_;refine ay ?_;exact hQ.1):A:=s ⟨h⟩
def zdl(s:A:=by rw[this];exact⟨fun i=>(by cases i),fun _=>⟨_,r9 fun f=>by rw[rs,ai aO]⟩⟩):A:=s
def zdm(s:A:=by exact⟨by first|rfl|(rw[bC];rfl),rfl⟩):A:=s
def zdn(h:B)(s:PLift B->A:=by intro hQ;simp only[R.mp,bY];exact hQ.1):A:=s ⟨h⟩
def zdo(s:A:=by refine aV (aM 0 6 (.a 6 (aM 7 3 .nil))) ?_;refine ay ?_;refine aX [] Y ?_;exact aK):A:=s
def zdp(h:B)(s:PLift B->A:=by intro hQ;refine OA rfl rfl ?_;refine GL.xj rfl rfl rfl aH rfl rfl rfl rfl ?_;exact hQ.1):A:=s ⟨h⟩
def zdq(h:B)(s:PLift B->A:=by intro hQ;refine aV (.q 1 (.q 2 (.a 0 (.a 3 .nil)))) ?_;refine ay ?_;refine aX [] vS ?_;refine aX [] d ?_;refine V ?_;refine oB ?_;exact hQ.1):A:=s ⟨h⟩
def zdr(s:A:=by refine bh ?_;exact aK):A:=s
def zds(s:A:=by rw[Z];refine ak func260 ntmps260 ?_;exact az):A:=s
def zdt(s:A:=by refine⟨_,fun d ty pos af=>?_,.v _⟩;simp[execOp,eqGuard,O.fE hx,O.fE C,this]):A:=s
def zdu(s:A:=by exact eX (E b t q) fun v t q=>eO (fun _=>⟨_,_,rfl,q⟩) fun _=>⟨_,_,rfl,q⟩):A:=s
def zdv(h:B)(s:PLift B->A:=by intro hQ;refine aV (.q 1 (.q 2 (.q 4 (.q 5 (.a 0 (.a 3 (.a 6 (.q 7 (.a 8 .nil))))))))) ?_;refine ay ?_;refine q5 ?_;refine ay ?_;exact hQ.1):A:=s ⟨h⟩
def zdw(h:B)(s:PLift B->A:=by intro hQ;refine V ?_;refine I [] W ?_;exact hQ.1):A:=s ⟨h⟩
def zdx(h:B)(s:PLift B->A:=by intro hQ;refine I [0] (cX _ [61] A aU) ?_;refine I [0] (w8 (d+1) _ e o z L m) ?_;refine I [0] (cX o [59] j aU) ?_;refine zab ?_;exact hQ.1):A:=s ⟨h⟩
def zdy(s:A:=by rw[nil_append];refine zak ?_;exact⟨rfl,rfl,_,_,Wk.a6 aC,h5,Mh,rfl,H5,rfl⟩):A:=s
def zdz(h:B)(s:PLift B->A:=by intro hQ;refine V ?_;refine a7 [0,1,2,3,4,5,6] hv ?_;refine V ?_;refine GL.jw 8 (n:=k) rfl rfl rfl rfl rfl rfl rfl rfl He ll ?_;exact hQ.1):A:=s ⟨h⟩
def zdA(s:A:=by refine pR [] m ?_;refine bW [] o ?_;exact gZ):A:=s
def zdB(s:A:=by simp[eH,E.wf,trivial,fS,S.tree]):A:=s
def zdC(s:A:=by refine ew ?_;exact⟨_,_,Wk.a6 aC,q,p,_,_,_,_,ns,rfl,rfl,⟨n,j,m,o⟩,e,b⟩):A:=s
def zdE(s:A:=by simp only[S.ok,aZ]at h;rw[S.tree,lj,List.map_cons,ky a h.2,S.bQ];simp[yz]):A:=s
def zdF(s:A:=by refine I [0] M ?_;exact az):A:=s
def zdG(s:A:=by rw[S.ok,aZ]at h;rw[S.tree,kV,fw,fw,fw,kV];simp_all[px,E.sx,S.Cz,trivial]):A:=s
def zdH(s:A:=by exact⟨_,_,by rw[bY],a8 _⟩):A:=s
def zdI(s:A:=by grind[Option.some.injEq,Prod.mk.injEq,yE]):A:=s
def zdJ(s:A:=by grind[Option.some.injEq,Prod.mk.injEq,yF]):A:=s
def zdK(s:A:=by obtain⟨g,rfl,o,j⟩:=pg z;rw[iS,u,ai A.code,ab F,ab J,ab R,ai B,H g j]):A:=s
def zdL(s:A:=by refine mj ?_;exact zaH):A:=s
def zdM(s:A:=by refine dX ?_;simp):A:=s
def zdN(s:A:=by generalize c.fail 23 n.at_=q at *;refine ak func207 ntmps207 ?_;exact zcY):A:=s
def zdO(s:A:=by simp only[S.ok]at h;rw[S.tree,lj,List.map_cons,ky a h,S.bQ];simp[yz]):A:=s
def zdP(s:A:=by simp only[bY]at h;exact ft (a:=0) (b:=0) aO (Q _ _) (fun v t y u=>Z) h):A:=s
def zdQ(s:A:=by refine ak func139 ntmps139 ?_;refine I [] q ?_;refine I [] H ?_;exact az):A:=s
def zdR(s:A:=by rw[List.map_cons,iz,this];rfl):A:=s
def zdS(s:A:=by rw[E.tree,fS];exact⟨fun h=>absurd h (by simp),fun _=>rfl,trivial⟩):A:=s
def zdU(s:A:=by refine I [] o ?_;exact az):A:=s
def zdV(h:B)(s:PLift B->A:=by intro hQ;refine V ?_;refine I [] k ?_;refine I [] b ?_;exact hQ.1):A:=s ⟨h⟩
def zdW(s:A:=by refine ew ?_;exact⟨_,_,Wk.a6 aC,a,z,n,b,d,rfl,rfl,C,i,by omega,H⟩):A:=s
def zdX(s:A:=by grind[mS,one,RS.place,RS.ba]):A:=s
def zdY(s:A:=by grind[dA,cL,own,T.n,T.aw,bX,ed,E.tree]):A:=s
def zdZ(s:A:=by grind[dA,cL,own,T.n,T.aw,bX,ed,S.tree]):A:=s
def zd0(s:A:=by refine ak func228 ntmps228 ?_;exact zaY):A:=s
def zd1(h:B)(s:PLift B->A:=by intro hQ;refine V ?_;refine I [] F ?_;refine I [] d ?_;refine I [] r ?_;refine I [2] b ?_;refine aV (aM 0 17 .nil) ?_;exact hQ.1):A:=s ⟨h⟩
def zd2(s:A:=by unfold mS at *;unfold dp at *;exact za0):A:=s
def zd3(s:A:=by refine ak func152 ntmps152 ?_;exact zcD):A:=s
def zd4(s:A:=by obtain⟨g,rfl⟩:∃F,g=F+1:=⟨g-1,by omega⟩;rw[n,Q,e g aO]):A:=s
def zd5(h:B)(s:PLift B->A:=by intro hQ;refine zdi ?_;rw[ab (i _ (by simp)),ab (fun h=>h.elim (i _ (by simp)) (i _ (by simp))),ab (i _ (by simp))];exact hQ.1):A:=s ⟨h⟩
def zd6(h:B)(s:PLift B->A:=by intro hQ;refine GL.wk (Wk.jJ (t:=57) rfl rfl rfl rfl) ?_;refine cP ?_;exact hQ.1):A:=s ⟨h⟩
def zd7(s:A:=by refine V ?_;exact⟨rfl,rfl,_,_,Wk.a6 aC,rfl,rfl,by rw[m,n];rfl⟩):A:=s
def zd8(s:A:=by exact⟨0,⟨_,_,Wk.a6 aC,rfl,rfl,by omega,l 0 rfl M⟩,by omega⟩):A:=s
def zd9(s:A:=by refine ak func259 ntmps259 ?_;exact az):A:=s
def zea(s:A:=by refine ak func135 ntmps135 ?_;exact az):A:=s
def zeb(s:A:=by refine ak func176 ntmps176 ?_;refine aV (aM 0 10 .nil) ?_;exact zbI):A:=s
def zec(h:B)(s:PLift B->A:=by intro hQ;refine zac ?_;refine zaX ?_;refine I [] m ?_;exact hQ.1):A:=s ⟨h⟩
def zed(s:A:=by exact q9 (fun _ _=>rfl) x hx):A:=s
def zee(h:B)(s:PLift B->A:=by intro hQ;refine V ?_;refine I [] i ?_;refine GL.wk (Wk.jJ (t:=59) rfl rfl rfl e) ?_;refine zbt ?_;refine I [] B ?_;exact hQ.1):A:=s ⟨h⟩
def zef(h:B)(s:PLift B->A:=by intro hQ;refine V ?_;refine zae ?_;refine V ?_;refine a7 [0,1,2,3,4,5,6] d ?_;refine V ?_;refine a7 [0,1,5,6] W ?_;exact hQ.1):A:=s ⟨h⟩
def zeg(s:A:=by exact I7 (k:=0) (q:=0) (h:=(0,0)) z A d R o 0 (.inl ⟨rfl,rfl⟩)):A:=s
def zeh(s:A:=by rw[this];exact⟨fun i=>(by cases i),fun _=>⟨_,Ev.PY aO⟩⟩):A:=s
def zei(s:A:=by simp[eH,E.wf,S.CE,trivial,fS,S.tree]):A:=s
def zej(h:B)(s:PLift B->A:=by intro hQ;refine zaM ?_;refine cy ?_;exact hQ.1):A:=s ⟨h⟩
def zek(h:B)(s:PLift B->A:=by intro hQ;refine zas ?_;refine dX ?_;exact hQ.1):A:=s ⟨h⟩
def zel(s:A:=by simp only[R.mp,R.iK a]):A:=s
def zem(s:A:=by simp only[bY]at h;exact en q (Q _ _) (fun v t y u=>bK (T _)) h):A:=s
def zen(s:A:=by have⟨S,u,F,E⟩:=h B K β w l j i O;exact k B S u w l j F E):A:=s
def zeo(s:A:=by grind[List.map_congr_left,Nat.mod_lt,Array.getElem?_eq_getElem]):A:=s
def zep(s:A:=by simp[nG,E.z,S.zs,trivial,zT,S.tree]):A:=s
def zeq(s:A:=by exact⟨px (by simp) (by simp) (by simp),E.sx a h.2,trivial⟩):A:=s
def zer(s:A:=by rw[ai (by simpa using i)];exact zaf):A:=s
def zdD(s:A:=by exact⟨T.zero,_,fun g c=>by rw[iE,A,ab E.err],by rw[<-On.tC i];exact E⟩):A:=s
def zes(s:A:=by rw[ab (by simpa using i)];exact zaf):A:=s
def zet(h:B)(s:PLift B->A:=by intro hQ;rw[show(jY st.aL).length+[[qT t]].length=(st.aL++[t]).length by simp[lI],<-vg st.aL t];refine bj ?_;exact hQ.1):A:=s ⟨h⟩
def zeu(s:A:=by refine zbW ?_;refine mV ?_;exact zai):A:=s
def zev(h:B)(s:PLift B->A:=by intro hQ;refine I [] Q ?_;refine aV (aM 0 8 (.a 8 (.a 9 .nil))) ?_;exact hQ.1):A:=s ⟨h⟩
def zew(h:B)(s:PLift B->A:=by intro hQ;refine V ?_;refine lG ?_;exact hQ.1):A:=s ⟨h⟩
def zex(h:B)(s:PLift B->A:=by intro hQ;refine zaJ ?_;refine ay ?_;refine bW [0] m ?_;refine bW [] ti ?_;refine bW [0] m ?_;refine bW [] c ?_;exact hQ.1):A:=s ⟨h⟩
def zez(s:A:=by simp[E.tree,T.n]at G):A:=s
def zeA(s:A:=by refine pF ?_;exact zaH):A:=s
def zeB(s:A:=by refine V ?_;have W:=gw (.mk ⟨9,a,0,s,ks⟩ l) 1 M;exact zaY):A:=s
def zeC(s:A:=by exact o.tr (y:=.error x) u):A:=s
def zeD(s:A:=by exact G.tr (y:=.error x) E):A:=s
def zeE(s:A:=by rw[wb];simp only[bB];refine zaW ?_;exact⟨_,_,rfl,rfl⟩):A:=s
def zeF(s:A:=by exact absurd G (by simp[one,T.n])):A:=s
def zeG(s:A:=by obtain⟨g,rfl,o,j⟩:=pg z;rw[iS,u,ai A.code,ai F,H g j]):A:=s
def zeH(s:A:=by show qh _ (List.take _ (b9 _ _ _))=true;rw[dx];exact xQ j1):A:=s
def zeI(s:A:=by rw[getElem?_eq_none L,getElem?_eq_none (by rw[bS];omega)]):A:=s
def zeJ(s:A:=by simp_all[nM,aZ,Bool.not_eq_true',decide_eq_false_iff_not]):A:=s
def zeK(s:A:=by have:=jT t;omega):A:=s
def zeL(s:A:=by refine zas ?_;exact⟨rfl,rfl,_,_,Wk.a6 aC,b,c,rfl,rfl⟩):A:=s
def zeM(s:A:=by exact absurd i (Mx _ _ _ (fun k d out h=>by cases h) _ _)):A:=s
def zeN(s:A:=by exact⟨by omega,by omega,by omega,fun x hx=>by grind⟩):A:=s
def zeO(s:A:=by exact⟨by grind,by grind,by grind,fun x hx=>by grind⟩):A:=s
def zeP(s:A:=by rw[E.tree,zT,nG,nG];exact⟨fun _=>rfl,E.z a,trivial⟩):A:=s
def zeQ(s:A:=by refine I [] O ?_;exact az):A:=s
def zeR(s:A:=by refine V ?_;exact zcj):A:=s
def zeS(s:A:=by refine bj ?_;exact ji):A:=s
def zeT(s:A:=by refine ay ?_;refine aX [] B ?_;refine aX [] r ?_;exact aK):A:=s
def zeU(s:A:=by have:=h.w;unfold cH wS at *;simp only[mh,cj]at *;omega):A:=s
def zeV(h:B)(s:PLift B->A:=by intro hQ;refine aV (aM 0 33 (.a 33 (.q 34 (.q 35 .nil)))) ?_;refine ay ?_;refine bW [0] (dk b 1 c aU) ?_;exact hQ.1):A:=s ⟨h⟩
def zeW(s:A:=by refine V ?_;refine I [] r ?_;refine I [0] q ?_;exact zcj):A:=s
def zeX(h:B)(s:PLift B->A:=by intro hQ;refine zaP ?_;refine I [0] B ?_;refine zab ?_;refine I [0] hw ?_;refine I [0] o ?_;refine nF ?_;exact hQ.1):A:=s ⟨h⟩
def zeY(s:A:=by refine ak func152 ntmps152 ?_;refine I [] Q ?_;exact zb0):A:=s
def zeZ(s:A:=by repeat (first|exact cw.n|(apply cw.w;(· decide +kernel))|(apply cw.y;(· first|(apply YQ.t;(· exact rfl);(· exact rfl);(· (first|exact dY|(apply K.idx;first|exact D.idxV rfl rfl rfl aH L|exact D.aS 0 rfl rfl rfl aE|exact D.aS 1 rfl rfl rfl aE|exact D.aS 2 rfl rfl rfl aE|exact D.aS 3 rfl rfl rfl aE|exact D.aS 4 rfl rfl rfl aE|exact D.aS 5 rfl rfl rfl aE|exact D.aS 6 rfl rfl rfl aE)|exact dZ|exact D.dV 1 rfl rfl aH aH|exact D.mv|exact D.iU|(apply K.bin;first|exact D.go rfl|exact D.gB rfl rfl L|exact D.fj rfl rfl|exact D.fm rfl rfl|exact D.kc rfl rfl|exact D.ke rfl rfl|exact D.cat rfl rfl L|exact D.cat rfl rfl (by simp only[bp,length_cons,length_nil];omega)|exact D.gM rfl rfl L|exact D.add rfl rfl L|exact D.sub rfl rfl L|exact D.mul rfl rfl L|exact D.iq rfl rfl L|exact D.quo rfl rfl L|exact D.rem rfl rfl L|exact D.eP rfl rfl)|exact dP|exact dO|exact ey|exact dz|exact dG|(apply K.idx;first|exact D.eD rfl rfl aN|exact D.bM rfl rfl aN rfl|exact D.bM rfl rfl aN L|exact D.gi rfl rfl L)|exact D.ext rfl rfl|exact D.go rfl|(apply K.kF;first|exact D.im rfl rfl rfl L|exact D.il rfl rfl L|exact D.ik rfl rfl L|exact D.eg 1 rfl rfl rfl aH)|exact D.fM rfl rfl aN|exact D.idxSC rfl rfl aN rfl|exact dH|exact D.build rfl|exact D.neg rfl L|exact D.fL rfl rfl|exact D.jL rfl (by first|rfl|exact IntWalk.i64_in _ L|exact IntWalk.u8_in _ L|assumption)|exact D.str rfl aH)))|(apply YQ.t;(· exact rfl);(· apply my;(· exact rfl);(· first|exact rfl|assumption));(· (first|exact dY|(apply K.idx;first|exact D.idxV rfl rfl rfl aH L|exact D.aS 0 rfl rfl rfl aE|exact D.aS 1 rfl rfl rfl aE|exact D.aS 2 rfl rfl rfl aE|exact D.aS 3 rfl rfl rfl aE|exact D.aS 4 rfl rfl rfl aE|exact D.aS 5 rfl rfl rfl aE|exact D.aS 6 rfl rfl rfl aE)|exact dZ|exact D.dV 1 rfl rfl aH aH|exact D.mv|exact D.iU|(apply K.bin;first|exact D.go rfl|exact D.gB rfl rfl L|exact D.fj rfl rfl|exact D.fm rfl rfl|exact D.kc rfl rfl|exact D.ke rfl rfl|exact D.cat rfl rfl L|exact D.cat rfl rfl (by simp only[bp,length_cons,length_nil];omega)|exact D.gM rfl rfl L|exact D.add rfl rfl L|exact D.sub rfl rfl L|exact D.mul rfl rfl L|exact D.iq rfl rfl L|exact D.quo rfl rfl L|exact D.rem rfl rfl L|exact D.eP rfl rfl)|exact dP|exact dO|exact ey|exact dz|exact dG|(apply K.idx;first|exact D.eD rfl rfl aN|exact D.bM rfl rfl aN rfl|exact D.bM rfl rfl aN L|exact D.gi rfl rfl L)|exact D.ext rfl rfl|exact D.go rfl|(apply K.kF;first|exact D.im rfl rfl rfl L|exact D.il rfl rfl L|exact D.ik rfl rfl L|exact D.eg 1 rfl rfl rfl aH)|exact D.fM rfl rfl aN|exact D.idxSC rfl rfl aN rfl|exact dH|exact D.build rfl|exact D.neg rfl L|exact D.fL rfl rfl|exact D.jL rfl (by first|rfl|exact IntWalk.i64_in _ L|exact IntWalk.u8_in _ L|assumption)|exact D.str rfl aH)))|(apply YQ.f;(· exact rfl);(· apply nf;(· exact rfl);(· first|exact rfl|assumption))))))):A:=s
def ze0(s:A:=by repeat (first|exact cw.n|(apply cw.w;(· decide +kernel))|(apply cw.y;(· first|(apply YQ.t;(· exact rfl);(· exact rfl);(· (first|exact D.jg 7 rfl rfl rfl ((ea _ _ _ _).trans j) o|(first|exact dY|(apply K.idx;first|exact D.idxV rfl rfl rfl aH L|exact D.aS 0 rfl rfl rfl aE|exact D.aS 1 rfl rfl rfl aE|exact D.aS 2 rfl rfl rfl aE|exact D.aS 3 rfl rfl rfl aE|exact D.aS 4 rfl rfl rfl aE|exact D.aS 5 rfl rfl rfl aE|exact D.aS 6 rfl rfl rfl aE)|exact dZ|exact D.dV 1 rfl rfl aH aH|exact D.mv|exact D.iU|(apply K.bin;first|exact D.go rfl|exact D.gB rfl rfl L|exact D.fj rfl rfl|exact D.fm rfl rfl|exact D.kc rfl rfl|exact D.ke rfl rfl|exact D.cat rfl rfl L|exact D.cat rfl rfl (by simp only[bp,length_cons,length_nil];omega)|exact D.gM rfl rfl L|exact D.add rfl rfl L|exact D.sub rfl rfl L|exact D.mul rfl rfl L|exact D.iq rfl rfl L|exact D.quo rfl rfl L|exact D.rem rfl rfl L|exact D.eP rfl rfl)|exact dP|exact dO|exact ey|exact dz|exact dG|(apply K.idx;first|exact D.eD rfl rfl aN|exact D.bM rfl rfl aN rfl|exact D.bM rfl rfl aN L|exact D.gi rfl rfl L)|exact D.ext rfl rfl|exact D.go rfl|(apply K.kF;first|exact D.im rfl rfl rfl L|exact D.il rfl rfl L|exact D.ik rfl rfl L|exact D.eg 1 rfl rfl rfl aH)|exact D.fM rfl rfl aN|exact D.idxSC rfl rfl aN rfl|exact dH|exact D.build rfl|exact D.neg rfl L|exact D.fL rfl rfl|exact D.jL rfl (by first|rfl|exact IntWalk.i64_in _ L|exact IntWalk.u8_in _ L|assumption)|exact D.str rfl aH))))|(apply YQ.t;(· exact rfl);(· apply my;(· exact rfl);(· first|exact rfl|assumption));(· (first|exact D.jg 7 rfl rfl rfl ((ea _ _ _ _).trans j) o|(first|exact dY|(apply K.idx;first|exact D.idxV rfl rfl rfl aH L|exact D.aS 0 rfl rfl rfl aE|exact D.aS 1 rfl rfl rfl aE|exact D.aS 2 rfl rfl rfl aE|exact D.aS 3 rfl rfl rfl aE|exact D.aS 4 rfl rfl rfl aE|exact D.aS 5 rfl rfl rfl aE|exact D.aS 6 rfl rfl rfl aE)|exact dZ|exact D.dV 1 rfl rfl aH aH|exact D.mv|exact D.iU|(apply K.bin;first|exact D.go rfl|exact D.gB rfl rfl L|exact D.fj rfl rfl|exact D.fm rfl rfl|exact D.kc rfl rfl|exact D.ke rfl rfl|exact D.cat rfl rfl L|exact D.cat rfl rfl (by simp only[bp,length_cons,length_nil];omega)|exact D.gM rfl rfl L|exact D.add rfl rfl L|exact D.sub rfl rfl L|exact D.mul rfl rfl L|exact D.iq rfl rfl L|exact D.quo rfl rfl L|exact D.rem rfl rfl L|exact D.eP rfl rfl)|exact dP|exact dO|exact ey|exact dz|exact dG|(apply K.idx;first|exact D.eD rfl rfl aN|exact D.bM rfl rfl aN rfl|exact D.bM rfl rfl aN L|exact D.gi rfl rfl L)|exact D.ext rfl rfl|exact D.go rfl|(apply K.kF;first|exact D.im rfl rfl rfl L|exact D.il rfl rfl L|exact D.ik rfl rfl L|exact D.eg 1 rfl rfl rfl aH)|exact D.fM rfl rfl aN|exact D.idxSC rfl rfl aN rfl|exact dH|exact D.build rfl|exact D.neg rfl L|exact D.fL rfl rfl|exact D.jL rfl (by first|rfl|exact IntWalk.i64_in _ L|exact IntWalk.u8_in _ L|assumption)|exact D.str rfl aH))))|(apply YQ.f;(· exact rfl);(· apply nf;(· exact rfl);(· first|exact rfl|assumption))))))):A:=s
def ze1(s:A:=by repeat (first|exact cw.n|(apply cw.w;(· decide +kernel))|(apply cw.y;(· first|(apply YQ.t;(· exact rfl);(· exact rfl);(· (first|exact D.jg 7 rfl rfl rfl j o|(first|exact dY|(apply K.idx;first|exact D.idxV rfl rfl rfl aH L|exact D.aS 0 rfl rfl rfl aE|exact D.aS 1 rfl rfl rfl aE|exact D.aS 2 rfl rfl rfl aE|exact D.aS 3 rfl rfl rfl aE|exact D.aS 4 rfl rfl rfl aE|exact D.aS 5 rfl rfl rfl aE|exact D.aS 6 rfl rfl rfl aE)|exact dZ|exact D.dV 1 rfl rfl aH aH|exact D.mv|exact D.iU|(apply K.bin;first|exact D.go rfl|exact D.gB rfl rfl L|exact D.fj rfl rfl|exact D.fm rfl rfl|exact D.kc rfl rfl|exact D.ke rfl rfl|exact D.cat rfl rfl L|exact D.cat rfl rfl (by simp only[bp,length_cons,length_nil];omega)|exact D.gM rfl rfl L|exact D.add rfl rfl L|exact D.sub rfl rfl L|exact D.mul rfl rfl L|exact D.iq rfl rfl L|exact D.quo rfl rfl L|exact D.rem rfl rfl L|exact D.eP rfl rfl)|exact dP|exact dO|exact ey|exact dz|exact dG|(apply K.idx;first|exact D.eD rfl rfl aN|exact D.bM rfl rfl aN rfl|exact D.bM rfl rfl aN L|exact D.gi rfl rfl L)|exact D.ext rfl rfl|exact D.go rfl|(apply K.kF;first|exact D.im rfl rfl rfl L|exact D.il rfl rfl L|exact D.ik rfl rfl L|exact D.eg 1 rfl rfl rfl aH)|exact D.fM rfl rfl aN|exact D.idxSC rfl rfl aN rfl|exact dH|exact D.build rfl|exact D.neg rfl L|exact D.fL rfl rfl|exact D.jL rfl (by first|rfl|exact IntWalk.i64_in _ L|exact IntWalk.u8_in _ L|assumption)|exact D.str rfl aH))))|(apply YQ.t;(· exact rfl);(· apply my;(· exact rfl);(· first|exact rfl|assumption));(· (first|exact D.jg 7 rfl rfl rfl j o|(first|exact dY|(apply K.idx;first|exact D.idxV rfl rfl rfl aH L|exact D.aS 0 rfl rfl rfl aE|exact D.aS 1 rfl rfl rfl aE|exact D.aS 2 rfl rfl rfl aE|exact D.aS 3 rfl rfl rfl aE|exact D.aS 4 rfl rfl rfl aE|exact D.aS 5 rfl rfl rfl aE|exact D.aS 6 rfl rfl rfl aE)|exact dZ|exact D.dV 1 rfl rfl aH aH|exact D.mv|exact D.iU|(apply K.bin;first|exact D.go rfl|exact D.gB rfl rfl L|exact D.fj rfl rfl|exact D.fm rfl rfl|exact D.kc rfl rfl|exact D.ke rfl rfl|exact D.cat rfl rfl L|exact D.cat rfl rfl (by simp only[bp,length_cons,length_nil];omega)|exact D.gM rfl rfl L|exact D.add rfl rfl L|exact D.sub rfl rfl L|exact D.mul rfl rfl L|exact D.iq rfl rfl L|exact D.quo rfl rfl L|exact D.rem rfl rfl L|exact D.eP rfl rfl)|exact dP|exact dO|exact ey|exact dz|exact dG|(apply K.idx;first|exact D.eD rfl rfl aN|exact D.bM rfl rfl aN rfl|exact D.bM rfl rfl aN L|exact D.gi rfl rfl L)|exact D.ext rfl rfl|exact D.go rfl|(apply K.kF;first|exact D.im rfl rfl rfl L|exact D.il rfl rfl L|exact D.ik rfl rfl L|exact D.eg 1 rfl rfl rfl aH)|exact D.fM rfl rfl aN|exact D.idxSC rfl rfl aN rfl|exact dH|exact D.build rfl|exact D.neg rfl L|exact D.fL rfl rfl|exact D.jL rfl (by first|rfl|exact IntWalk.i64_in _ L|exact IntWalk.u8_in _ L|assumption)|exact D.str rfl aH))))|(apply YQ.f;(· exact rfl);(· apply nf;(· exact rfl);(· first|exact rfl|assumption))))))):A:=s
def ze2(s:A:=by grind):A:=s
def ze3(s:A:=by simp):A:=s
def ze4(s:A:=by omega):A:=s
def ze5(s:A:=by grind[T.n]):A:=s
def ze6(s:A:=by first|exact rfl|assumption):A:=s
def ze7(s:A:=by simpa using jN e 0 t rfl):A:=s
def ze8(s:A:=by simpa using h):A:=s
def ze9(s:A:=by grind[bD]):A:=s
def zfa(s:A:=by cases h):A:=s
def zfb(s:A:=by rw[List.mem_take_iff_getElem];exact⟨j,by omega,rfl⟩):A:=s
def zfc(s:A:=by grind[kv,aP]):A:=s
def zfd(s:A:=by grind[maxLen]):A:=s
def zfe(s:A:=by grind[List.append_eq_nil_iff]):A:=s
def zff(s:A:=by simp[execOp,resolve,invoke,builtin,hs,hx,O]):A:=s
def zfg(s:A:=by grind[kb]):A:=s
def zfh(s:A:=by first|rfl|exact IntWalk.i64_in _ L|exact IntWalk.u8_in _ L|assumption):A:=s
def zfi(s:A:=by simpa using jN e 1 u rfl):A:=s
def zfj(s:A:=by rw[j];decide):A:=s
def zfk(s:A:=by simpa using o):A:=s
def zfl(s:A:=by rfl):A:=s
def zfm(s:A:=by grind[fN]):A:=s
def zfn(s:A:=by simpa using M):A:=s
def zfo(s:A:=by grind[fW]):A:=s
def zfp(s:A:=by grind[sa]):A:=s
def zfq(s:A:=by rw[bS];omega):A:=s
def zfr(s:A:=by rw[hO (a8 _),qs];rfl):A:=s
def zfs(s:A:=by rw[G];decide):A:=s
def zft(s:A:=by simpa using c):A:=s
def zfu(s:A:=by simpa using O):A:=s
def zfv(s:A:=by simp only[bp,length_cons,length_nil];omega):A:=s
def zfw(s:A:=by rw[bp];omega):A:=s
def zfx(s:A:=by simp[rs]):A:=s
def zfy(s:A:=by unfold KF at j;omega):A:=s
def zfz(s:A:=by first|rfl|decide):A:=s
def zfA(s:A:=by simp[j]):A:=s
def zfB(s:A:=by rw[C,R,<-Nat.add_mul,H];exact sw _ A):A:=s
def zfC(s:A:=by have:=hn.fresh;have:=h.ext.size;omega):A:=s
def zfD(s:A:=by rw[E,A];exact growslice_fits ze4 ze4):A:=s
end
end Go
namespace Go
def aO{A:Prop}(s:A:=by omega):A:=s
def aD{A:Prop}(s:A:=by decide):A:=s
section
variable{R:Type _}
def b6{l:List R}{i:Nat}{a:R}(h:l[i]?=some a):∃(h:i<l.length),l[i]=a:=List.getElem?_eq_some_iff.1 h
def lp{a b:R}{l:List R}(h:a∈b::l):a=b\/a∈l:=List.mem_cons.1 h
def pG{a:R}{s t:List R}(h:a∈s++t):a∈s\/a∈t:=List.mem_append.1 h
def J0{a b:R}(h:a∈[b]):a=b:=List.mem_singleton.1 h
def nQ{l:List R}{i:Nat}(h:l[i]?=none):l.length<=i:=List.getElem?_eq_none_iff.1 h
end
def ab:type_of% @if_neg:=@if_neg
def ai:type_of% @if_pos:=@if_pos
def aZ:type_of% @Bool.and_eq_true:=@Bool.and_eq_true
theorem bN:type_of% @List.mem_of_getElem?:=@List.mem_of_getElem?
theorem bp:type_of% @List.length_append:=@List.length_append
def a8:type_of% @Nat.le_refl:=@Nat.le_refl
def dR:type_of% @List.getElem?_map:=@List.getElem?_map
def bl:type_of% @Nat.zero_le:=@Nat.zero_le
theorem cY:type_of% @List.getElem?_eq_getElem:=@List.getElem?_eq_getElem
theorem bS:type_of% @List.length_map:=@List.length_map
theorem kQ:type_of% @List.eq_nil_of_length_eq_zero:=@List.eq_nil_of_length_eq_zero
theorem c7:type_of% @List.take_add_one:=@List.take_add_one
def eF:type_of% @Nat.le_of_ble_eq_true:=@Nat.le_of_ble_eq_true
def dx:type_of% @List.take_length:=@List.take_length
theorem gK:type_of% @List.append_assoc:=@List.append_assoc
def dy:type_of% @Nat.zero_add:=@Nat.zero_add
theorem eQ:type_of% @List.mem_cons_of_mem:=@List.mem_cons_of_mem
theorem hO:type_of% @List.getElem?_append_right:=@List.getElem?_append_right
theorem iC:type_of% @List.length_take:=@List.length_take
def gL:type_of% @List.append_nil:=@List.append_nil
def gA:type_of% @List.getElem?_append_left:=@List.getElem?_append_left
def eR:type_of% @List.getElem?_set:=@List.getElem?_set
def py:type_of% @List.length_zipWith:=@List.length_zipWith
def kA:type_of% @Nat.add_assoc:=@Nat.add_assoc
def qs:type_of% @Nat.sub_self:=@Nat.sub_self
theorem lz:type_of% @List.drop_eq_getElem_cons:=@List.drop_eq_getElem_cons
theorem ml:type_of% @List.take_of_length_le:=@List.take_of_length_le
theorem jC:type_of% @Nat.le_trans:=@Nat.le_trans
theorem qt:type_of% @List.length_drop:=@List.length_drop
theorem su:type_of% @Option.some.inj:=@Option.some.inj
def jK:type_of% @List.map_append:=@List.map_append
theorem rv:type_of% @List.contains_iff_mem:=@List.contains_iff_mem
def qu:type_of% @of_decide_eq_true:=@of_decide_eq_true
theorem hY:type_of% @List.all_eq_true:=@List.all_eq_true
theorem eV:type_of% @Int.toNat_natCast:=@Int.toNat_natCast
def sw:type_of% @Nat.mul_le_mul_right:=@Nat.mul_le_mul_right
def Aj:type_of% @Nat.lt_of_lt_of_le:=@Nat.lt_of_lt_of_le
def x9:type_of% @mem_map:=@mem_map
theorem pz:type_of% @List.any_eq_true:=@List.any_eq_true
end Go
namespace Go.Xp
abbrev ah:=List UInt8
structure Tok where
 aj:Int
 n:Int
 s:ah
 at_:Int
structure Nd where
 aj:Int
 at_:Int
 n:Int
 s:ah
 aw:List Int
inductive T where
 |mk (n:Nd) (aw:List T)
def T.n:T->Nd|.mk n _=>n
def T.aw:T->List T|.mk _ k=>k
abbrev Er:=Int × Int
abbrev Rd(R:Type):=Except Er (R × List Tok)
def dN(t:Tok):ah:=if t.aj=3 then t.s else[]
def aJ(ts:List Tok)(k:Nat):ah:=match ts[k]? with|some t=>dN t|none=>[]
def place(e:Int):List Tok->Int
 |t::_=>t.at_
 |[]=>e
def ba(e:Int)(s:ah)(ts:List Tok):Except Er (List Tok) :=
 if aJ ts 0=s then .ok ts.tail else .error (7,place e ts)
def name(e:Int):List Tok->Rd ah
 |[]=>.error (7,e)
 |t::r=>if t.aj=2 then(if t.s.length>12 then .error (8,t.at_)else .ok (t.s,r))else .error (7,t.at_)
def one(u at_:Int)(s:ah)(aw:List T):T:=.mk ⟨u,at_,0,s,[]⟩ aw
def levels:List (List ah):=[[[124,124]],[[38,38]],[[61,61],[33,61],[60],[62],[60,61],[62,61]],[[124]],[[94]],[[38]],[[60,60],[62,62]],[[43],[45]],[[42],[47],[37]]]
def bJ:Er:=(-1,-1)
inductive tJ where
 |expr (aW:Nat)
 |level (k aW:Nat)
 |loop (k aW:Nat) (out:T)
 |operand (aW:Nat)
def rd(e:Int):Nat->tJ->List Tok->Rd T
 |0,_,_=>.error bJ
 |f+1,.expr aW,u=>if aW>60 then .error (9,place e u)else rd e f (.level 0 (aW+1)) u
 |f+1,.level k aW,u =>
  if k=9 then rd e f (.operand aW) u
  else match rd e f (.level (k+1) aW) u with
   |.error x=>.error x
   |.ok (out,u)=>rd e f (.loop k aW out) u
 |f+1,.loop k aW out,u =>
  match u with
  |[]=>.ok (out,u)
  |t::r =>
   if t.aj=3/\t.s∈levels.getD k []then
    match rd e f (.level (k+1) aW) r with
    |.error x=>.error x
    |.ok (b,r)=>rd e f (.loop k aW (one 6 t.at_ t.s [out,b])) r
   else .ok (out,u)
 |f+1,.operand aW,u =>
  if aW>60 then .error (9,place e u)
  else match u with
  |[]=>.error (7,e)
  |t::r =>
   if t.aj=3 then
    if t.s=[45]\/t.s=[33]\/t.s=[126]then
     match rd e f (.operand (aW+1)) r with
     |.error x=>.error x
     |.ok (a,r)=>.ok (one 5 t.at_ t.s [a],r)
    else if t.s=[40]then
     match rd e f (.expr (aW+1)) r with
     |.error x=>.error x
     |.ok (a,r)=>match ba e [41] r with
      |.error x=>.error x
      |.ok r=>.ok (a,r)
    else .error (7,t.at_)
   else if t.aj=1 then .ok (.mk ⟨1,t.at_,t.n,[],[]⟩ [],r)
   else match name e u with
    |.error x=>.error x
    |.ok (s,r) =>
     if aJ r 0=[91]then
      match rd e f (.expr (aW+1)) r.tail with
      |.error x=>.error x
      |.ok (a,r)=>match ba e [93] r with
       |.error x=>.error x
       |.ok r=>.ok (one 3 t.at_ s [a],r)
     else if aJ r 0=[40]then
      match args e f (aW+1) [] r.tail with
      |.error x=>.error x
      |.ok (l,r)=>.ok (one 4 t.at_ s l,r)
     else .ok (one 2 t.at_ s [],r)
where
 args (e:Int):Nat->Nat->List T->List Tok->Rd (List T)
  |0,_,_,_=>.error bJ
  |f+1,aW,acc,ts =>
   if aJ ts 0=[41]then .ok (acc,ts.tail)
   else match(if acc=[]then .ok ts else ba e [44] ts)with
    |.error x=>.error x
    |.ok ts=>match rd e f (.expr aW) ts with
     |.error x=>.error x
     |.ok (a,ts)=>args e f aW (acc++[a]) ts
def lS:ah:=[118,97,114]
def gk:ah:=[105,102]
def iH:ah:=[101,108,115,101]
def gD:ah:=[119,104,105,108,101]
def gP:ah:=[114,101,116,117,114,110]
def jh:ah:=[105,110,116]
def ju:ah:=[102,117,110,99]
inductive sP where
 |block (aW:Nat)
 |stmt (aW:Nat)
def nw(ts:List Tok):Nat:=20*ts.length+20
def expr(e:Int)(aW:Nat)(ts:List Tok):Rd T:=rd e (nw ts) (.expr aW) ts
def inner(e:Int)(aW:Nat)(a b:ah)(ts:List Tok):Rd T :=
 match ba e a ts with
 |.error x=>.error x
 |.ok ts=>match expr e aW ts with
  |.error x=>.error x
  |.ok (t,ts)=>match ba e b ts with
   |.error x=>.error x
   |.ok ts=>.ok (t,ts)
def lZ(e:Int)(aW:Nat)(ts:List Tok):Rd (ah × T) :=
 match name e ts with
 |.error x=>.error x
 |.ok (s,ts)=>match inner e aW [61] [59] ts with
  |.error x=>.error x
  |.ok (t,ts)=>.ok ((s,t),ts)
def simple(e:Int)(aW:Nat)(ts:List Tok):Rd T :=
 match ts with
 |[]=>match expr e (aW+1) []with
  |.error x=>.error x
  |.ok _=>.error (7,e)
 |t::_ =>
  if t.aj=2/\aJ ts 1=[61]then
   match lZ e (aW+1) ts with
   |.error x=>.error x
   |.ok ((s,a),ts)=>.ok (one 7 t.at_ s [a],ts)
  else match expr e (aW+1) ts with
   |.error x=>.error x
   |.ok (a,ts) =>
    if a.n.aj=3/\a.n.at_=t.at_/\aJ ts 0=[61]then
     match inner e (aW+1) [61] [59] ts with
     |.error x=>.error x
     |.ok (v,ts)=>.ok (one 8 t.at_ a.n.s (a.aw.take 1++[v]),ts)
    else match ba e [59] ts with
     |.error x=>.error x
     |.ok ts=>.ok (one 12 t.at_ [] [a],ts)
def rs(e:Int):Nat->sP->List Tok->Rd T
 |0,_,_=>.error bJ
 |f+1,.block aW,t =>
  if aW>60 then .error (9,place e t)
  else match ba e [123] t with
   |.error x=>.error x
   |.ok r=>match body e f (aW+1) [] r with
    |.error x=>.error x
    |.ok (l,r)=>.ok (one 14 (place e t) [] l,r)
 |f+1,.stmt aW,t =>
  if aW>60 then .error (9,place e t)
  else
   let at_:=place e t
   if aJ t 0=lS then
    match lZ e (aW+1) t.tail with
    |.error x=>.error x
    |.ok ((s,a),t)=>.ok (one 13 at_ s [a],t)
   else if aJ t 0=gk\/aJ t 0=gD then
    match inner e (aW+1) [40] [41] t.tail with
    |.error x=>.error x
    |.ok (c,r)=>match rs e f (.block (aW+1)) r with
     |.error x=>.error x
     |.ok (b,r) =>
      if aJ t 0=gk then
       if aJ r 0=iH then
        match rs e f (.block (aW+1)) r.tail with
        |.error x=>.error x
        |.ok (m,r)=>.ok (one 9 at_ [] [c,b,m],r)
       else .ok (one 9 at_ [] [c,b],r)
      else .ok (one 10 at_ [] [c,b],r)
   else if aJ t 0=gP then
    match expr e (aW+1) t.tail with
    |.error x=>.error x
    |.ok (a,t)=>match ba e [59] t with
     |.error x=>.error x
     |.ok t=>.ok (one 11 at_ [] [a],t)
   else simple e aW t
where
 body (e:Int):Nat->Nat->List T->List Tok->Rd (List T)
  |0,_,_,_=>.error bJ
  |f+1,aW,acc,ts =>
   if aJ ts 0=[125]then .ok (acc,ts.tail)
   else match rs e f (.stmt aW) ts with
    |.error x=>.error x
    |.ok (a,ts)=>body e f aW (acc++[a]) ts
def block(e:Int)(aW:Nat)(ts:List Tok):Rd T:=rs e (nw ts) (.block aW) ts
structure Ar where
 name:ah
 size:Int
structure fQ where
 name:ah
 params:List ah
 tree:T
end Go.Xp
namespace Go.Sp
open Go.Xp
structure RS where
 l:List Tok
 i:Nat
 e:Int
 code:Int
 at_:Int
def RS.ok(p:RS):Prop:=p.i<=p.l.length/\p.l.length<=1099511627776
def RS.place(p:RS):Int:=match p.l[p.i]? with|some t=>t.at_|none=>p.e
def RS.fail(p:RS)(c a:Int):RS:=if p.code=0 then⟨p.l,p.i,p.e,c,a⟩else p
def RS.aJ(p:RS)(k:Nat):ah:=if p.code=0 then(match p.l[p.i+k]? with|some t=>dN t|none=>[])else[]
def RS.next(p:RS):RS:=⟨p.l,p.i+1,p.e,p.code,p.at_⟩
def RS.ba(p:RS)(s:ah):RS:=if p.aJ 0=s then p.next else p.fail 7 p.place
def RS.name(p:RS):ah × RS :=
 if p.code=0 then match p.l[p.i]? with
  |some t=>if t.aj=2 then(if t.s.length>12 then([],p.fail 8 t.at_)else(t.s,p.next))else([],p.fail 7 p.place)
  |none=>([],p.fail 7 p.place)
 else([],p)
def RS.aW(p:RS)(d:Nat):RS:=if d>60 then p.fail 9 p.place else p
def T.zero:T:=.mk ⟨0,0,0,[],[]⟩ []
inductive J where
 |expr (d:Nat)
 |level (k d:Nat)
 |loop (k d:Nat) (out:T)
 |operand (d:Nat)
 |named (at_:Int) (s:ah) (d:Nat)
mutual
def mE:Nat->J->RS->Option (T × RS)
 |0,_,_=>none
 |f+1,.expr d,p=>mE f (.level 0 d) (p.aW d)
 |f+1,.level k d,p =>
  if k=9 then mE f (.operand (d+1)) p
  else match mE f (.level (k+1) d) p with
   |none=>none
   |some (out,p)=>mE f (.loop k d out) p
 |f+1,.loop k d out,p =>
  if p.code=0/\(levels.getD k []).contains (p.aJ 0)=true then
   match p.l[p.i]? with
   |none=>none
   |some t=>match mE f (.level (k+1) d) p.next with
    |none=>none
    |some (b,p)=>mE f (.loop k d (one 6 t.at_ t.s [out,b])) p
  else some (out,p)
 |f+1,.operand d,p =>
  let p:=p.aW d
  if p.code=0 then match p.l[p.i]? with
   |none=>some (T.zero,p.fail 7 p.place)
   |some t =>
    if t.aj=1 then some (.mk ⟨1,t.at_,t.n,[],[]⟩ [],p.next)
    else if t.aj=2 then mE f (.named t.at_ p.name.1 d) p.name.2
    else if t.s=[45]\/t.s=[33]\/t.s=[126]then match mE f (.operand (d+1)) p.next with
     |none=>none
     |some (a,p)=>some (one 5 t.at_ t.s [a],p)
    else if t.s=[40]then match mE f (.expr (d+1)) p.next with
     |none=>none
     |some (a,p)=>some (a,p.ba [41])
    else some (T.zero,p.fail 7 t.at_)
  else some (T.zero,p.fail 7 p.place)
 |f+1,.named at_ s d,p =>
  if p.aJ 0=[91]then match mE f (.expr (d+1)) p.next with
   |none=>none
   |some (a,p)=>some (one 3 at_ s [a],p.ba [93])
  else if p.aJ 0=[40]then match mL f (d+1) p.next with
   |none=>none
   |some (l,p)=>some (one 4 at_ s l,p)
  else some (one 2 at_ s [],p)
def mL:Nat->Nat->RS->Option (List T × RS)
 |0,_,_=>none
 |f+1,d,p=>if p.aJ 0=[41]then some ([],p.ba [41])else match mE f (.expr d) p with
  |none=>none
  |some (a,p)=>pM f d [a] p
def pM:Nat->Nat->List T->RS->Option (List T × RS)
 |0,_,_,_=>none
 |f+1,d,W,p=>if p.aJ 0=[44]then match mE f (.expr d) p.next with
   |none=>none
   |some (a,p)=>pM f d (W++[a]) p
  else some (W,p.ba [41])
end
def RS.oh(p:RS):Bool:=match p.l[p.i]? with|some t=>decide (t.aj=2)|none=>false
def RS.ck(p:RS):Int:=if p.aJ 0=gk then 9 else 10
inductive JS where
 |block (d:Nat)
 |stmt (d:Nat)
 |cond (at_:Int) (d:Nat)
def fe(p:RS):Nat:=100*p.l.length+2000
def mX(d:Nat)(p:RS):Option (T × RS):=mE (fe p) (.expr d) p
mutual
def mS:Nat->JS->RS->Option (T × RS)
 |0,_,_=>none
 |f+1,.block d,p =>
  let p:=p.aW d
  match mB f (d+1) [] (p.ba [123])with
  |none=>none
  |some (l,q)=>some (one 14 p.place [] l,q.ba [125])
 |f+1,.stmt d,p =>
  let p:=p.aW d
  let at_:=p.place
  let s:=p.aJ 0
  if s=lS then match mX (d+1) ((p.next.name.2).ba [61])with
   |none=>none
   |some (e,q)=>some (one 13 at_ p.next.name.1 [e],q.ba [59])
  else if s=gk\/s=gD then mS f (.cond at_ d) p
  else if s=gP then match mX (d+1) p.next with
   |none=>none
   |some (e,q)=>some (one 11 at_ [] [e],q.ba [59])
  else if p.code=0/\p.oh=true/\p.aJ 1=[61]then match mX (d+1) (p.name.2.ba [61])with
   |none=>none
   |some (e,q)=>some (one 7 at_ p.name.1 [e],q.ba [59])
  else match mX (d+1) p with
   |none=>none
   |some (e,q) =>
    if e.n.aj=3/\e.n.at_=at_/\q.aJ 0=[61]then match e.aw,mX (d+1) q.next with
     |a::_,some (v,q)=>some (one 8 at_ e.n.s [a,v],q.ba [59])
     |_,_=>none
    else some (one 12 at_ [] [e],q.ba [59])
 |f+1,.cond at_ d,p =>
  match mX (d+1) (p.next.ba [40])with
  |none=>none
  |some (e,q)=>match mS f (.block (d+1)) (q.ba [41])with
   |none=>none
   |some (b,q) =>
    if p.ck=9/\q.aJ 0=iH then match mS f (.block (d+1)) q.next with
     |none=>none
     |some (m,q)=>some (one p.ck at_ [] [e,b,m],q)
    else some (one p.ck at_ [] [e,b],q)
def mB:Nat->Nat->List T->RS->Option (List T × RS)
 |0,_,_,_=>none
 |f+1,d,W,p=>if p.code=0/\¬p.aJ 0=[125]then match mS f (.stmt d) p with
   |none=>none
   |some (a,p)=>mB f d (W++[a]) p
  else some (W,p)
end
def dv{p:RS}{k:Nat}{s:ah}(h:p.aJ k=s)(G:s≠[]):p.i+k<p.l.length/\p.code=0:=by
 grind[RS.aJ,Nat.lt_of_not_le,List.getElem?_eq_none_iff]
def RS.to(p q:RS):Prop:=q.l=p.l/\q.e=p.e/\q.i<=q.l.length/\p.i<=q.i
theorem RS.to.ok{p q:RS}(h:p.to q)(W:p.ok):q.ok:=⟨h.2.2.1,by rw[h.1];exact W.2⟩
def RS.to.trans{p q r:RS}(h:p.to q)(k:q.to r):p.to r:=⟨k.1.trans h.1,k.2.1.trans h.2.1,k.2.2.1,jC h.2.2.2 k.2.2.2⟩
section
variable{p:RS}
theorem jU(W:p.ok):p.to p:=⟨rfl,rfl,W.1,a8 _⟩
theorem mI(W:p.ok)(c a:Int):p.to (p.fail c a):=by
 unfold RS.fail;split
 ·exact⟨rfl,rfl,W.1,a8 _⟩
 ·exact jU W
theorem cR(h:p.i<p.l.length):p.to p.next:=⟨rfl,rfl,h,Nat.le_succ _⟩
theorem bU(W:p.ok){s:ah}(G:s≠[]):p.to (p.ba s):=by
 unfold RS.ba;split
 ·rename_i h;exact cR (by have:=(dv h G).1;omega)
 grind[mI]
theorem eU(W:p.ok):p.to p.name.2:=by
 unfold RS.name
 grind[mI,List.getElem?_eq_some_iff,cR,jU]
theorem iF(W:p.ok)(d:Nat):p.to (p.aW d):=by
 grind[mI,jU,RS.to,RS.aW]
def dW{s:ah}(h:p.aJ 0=s)(G:s≠[]):p.to p.next:=cR (by have:=(dv h G).1;omega)
end
def rh:∀(f:Nat),(∀j p t q,p.ok->mE f j p=some (t,q)->p.to q)/\(∀d p l q,p.ok->mL f d p=some (l,q)->p.to q)/\(∀d T p l q,p.ok->pM f d T p=some (l,q)->p.to q)
 |0=>⟨fun j p t q _ h=>by simp[mE]at h,fun d p l q _ h=>by simp[mL]at h,fun d T p l q _ h=>by simp[pM]at h⟩
 |f+1=>by
  have⟨o,m,J⟩:=rh f;refine⟨fun j p t q W h=>?_,fun d p l q W h=>?_,fun d T p l q W h=>?_⟩
  ·cases j with
   |expr d=>rw[mE]at h;exact(iF W d).trans (o _ _ _ _ ((iF W d).ok W) h)
   |level k d =>
    rw[mE]at h;split at h
    ·grind
    ·split at h
     ·cases h
     ·rename_i out i e;have:=o _ _ _ _ W e;exact zcv
   |loop k d out =>
    rw[mE]at h;split at h
    ·split at h
     ·cases h
     ·rename_i n M;have c:=cR (p:=p) (b6 M).1;split at h
      ·cases h
      ·rename_i b i e;have:=c.trans (o _ _ _ _ (c.ok W) e);exact zcv
    grind[jU]
   |operand d =>
    rw[mE]at h;have X:=iF W d;have G:=X.ok W;refine X.trans ?_;generalize p.aW d=p at *
    try simp only at h
    split at h
    ·split at h
     ·grind[mI]
     ·rename_i n M;have c:=cR (p:=p) (b6 M).1;split at h
      ·grind
      ·split at h
       ·exact(eU G).trans (o _ _ _ _ ((eU G).ok G) h)
       ·split at h
        ·split at h
         ·cases h
         ·rename_i a i e
          cases h;exact c.trans (o _ _ _ _ (c.ok G) e)
        ·split at h
         ·split at h
          ·cases h
          ·rename_i a i e;have:=c.trans (o _ _ _ _ (c.ok G) e)
           cases h;exact zbQ
         grind[mI]
    grind[mI]
   |named a s d =>
    rw[mE]at h;split at h
    ·rename_i H;have c:=dW H aD;split at h
     ·cases h
     ·rename_i Y i e;have:=c.trans (o _ _ _ _ (c.ok W) e)
      cases h;exact this.trans (bU (this.ok W) aD)
    ·split at h
     ·rename_i H;have c:=dW H aD;split at h
      ·cases h
      ·rename_i Y i e
       cases h;exact c.trans (m _ _ _ _ (c.ok W) e)
     grind[jU]
  ·rw[mL]at h;split at h
   ·grind[bU]
   ·split at h
    ·cases h
    ·rename_i a i e;have:=o _ _ _ _ W e;exact this.trans (J _ _ _ _ _ (this.ok W) h)
  ·rw[pM]at h;split at h
   ·rename_i H;have c:=dW H aD;split at h
    ·cases h
    ·rename_i a i e;have:=c.trans (o _ _ _ _ (c.ok W) e);exact this.trans (J _ _ _ _ _ (this.ok W) h)
   grind[bU]
def small(c:UInt8):Bool:=decide ((97:Int)<=(c.toNat:Int))&&decide ((c.toNat:Int)<=122)
def eM(c:UInt8):Bool:=decide ((48:Int)<=(c.toNat:Int))&&decide ((c.toNat:Int)<=57)
def fD(c:UInt8):Bool:=small c ||(decide ((65:Int)<=(c.toNat:Int))&&decide ((c.toNat:Int)<=90)) ||eM c ||((c.toNat:Int)==95)
def fv(c:UInt8):Bool:=((c.toNat:Int)==32) ||((c.toNat:Int)==9) ||((c.toNat:Int)==10) ||((c.toNat:Int)==13)
def ct(s:ah)(at_:Nat)(t:ah):Bool:=decide (at_+t.length<=s.length)&&((s.take (at_+t.length)).drop at_==t)
def iD(s:ah):Nat->Nat->Nat
 |0,e=>e
 |f+1,e=>if e<s.length/\ct s e [42,47]=false then iD s f (e+1)else e
def skip(s:ah):Nat->Nat->Nat × Int
 |0,at_=>(at_,-1)
 |f+1,at_=>match s[at_]? with
  |none=>(at_,-1)
  |some c =>
   if fv c=true then skip s f (at_+1)
   else if ct s at_ [47,42]=true then
    let e:=iD s s.length (at_+2)
    if s.length<=e then(at_,(at_:Int))else skip s f (e+2)
   else(at_,-1)
theorem nc{s t:ah}{a:Nat}(h:ct s a t=true):a+t.length<=s.length:=by
 simp_all[ct,aZ,decide_eq_true_eq]
theorem sf(s:ah):∀(f e:Nat),e<=s.length->e<=iD s f e/\iD s f e<=s.length
 |0,e,h=>⟨a8 _,h⟩
 |f+1,e,h=>by
  rw[iD];split
  ·rename_i W;have:=sf s f (e+1) W.1;omega
  omega
theorem rf(s:ah):∀(f e:Nat),e<=s.length->s.length<=f+e->¬(iD s f e<s.length/\ct s (iD s f e) [42,47]=false)
 |0,e,h,l=>by rw[iD];omega
 |f+1,e,h,l=>by
  rw[iD];split
  ·rename_i W;exact rf s f (e+1) W.1 aO
  omega
def number(s:ah):Nat->Int->Nat->Int × Nat
 |0,n,a=>(n,a)
 |f+1,n,a=>match s[a]? with
  |none=>(n,a)
  |some c=>if eM c=true then number s f (if n<=2147483647 then n*10+((c.toNat:Int)-48)else n) (a+1)else(n,a)
def run(s:ah)(p:UInt8->Bool):Nat->Nat->Nat
 |0,a=>a
 |f+1,a=>match s[a]? with
  |none=>a
  |some c=>if p c=true then run s p f (a+1)else a
def words:List ah:=[[105,110,116],[118,97,114],[102,117,110,99],[105,102],[101,108,115,101],[119,104,105,108,101],[114,101,116,117,114,110]]
def cE:List ah:=[[124,124],[38,38],[61,61],[33,61],[60,61],[62,61],[60,60],[62,62],[40],[41],[123],[125],[91],[93],[44],[59],[61],[60],[62],[43],[45],[42],[47],[37],[38],[124],[94],[33],[126]]
def hE(s:ah)(a:Nat):Nat:=run s fD (s.length+1) a
def jB(s:ah)(a:Nat):ah:=(s.take (hE s a)).drop a
def gJ(s:ah)(a:Nat)(c:UInt8):Tok × Nat :=
 if eM c=true then(⟨1,(number s (s.length+1) 0 a).1,[],a⟩,(number s (s.length+1) 0 a).2)
 else if small c=true then(⟨if words.contains (jB s a)=true then 3 else 2,0,jB s a,a⟩,hE s a)
 else match cE.find? (ct s a)with
  |some x=>(⟨3,0,x,a⟩,a+x.length)
  |none=>(⟨0,0,[],0⟩,a)
def qp(s:ah):Nat->Nat->List Tok->Option (List Tok)
 |0,_,_=>none
 |f+1,a,T=>match s[a]? with
  |none=>some T
  |some c=>qp s f (skip s (s.length+1) (gJ s a c).2).1 (T++[(gJ s a c).1])
def ir(s:ah):Option (List Tok):=qp s (s.length+2) (skip s (s.length+1) 0).1 []
def word(s:ah):Bool:=s.all fD&&(match s with|[]=>false|c::_=>small c)
def bZ(s:ah):Bool:=word s&&decide (s.length<=12)&&!(words.contains s)
theorem so(s:ah):∀(f:Nat)(n:Int)(a:Nat),a<=s.length->s.length<f+a->(∀c,s[(number s f n a).2]?=some c->eM c=false)/\a<=(number s f n a).2/\(number s f n a).2<=s.length
 |0,n,a,o,b=>by omega
 |f+1,n,a,o,b=>by
  rw[number]
  cases W:s[a]? with
  |none=>grind
  |some c =>
   simp only;have N:=(b6 W).1
   by_cases T:eM c=true
   ·rw[ai T];have⟨G,C,e⟩:=so s f (if n<=2147483647 then n*10+((c.toNat:Int)-48)else n) (a+1) aO aO
    grind
   grind
theorem oK(s:ah)(p:UInt8->Bool):∀(f:Nat)(a:Nat),a<=s.length->s.length<f+a->(∀c,s[run s p f a]?=some c->p c=false)/\a<=run s p f a/\run s p f a<=s.length
 |0,a,o,b=>by omega
 |f+1,a,o,b=>by
  rw[run]
  cases W:s[a]? with
  |none=>grind
  |some c =>
   simp only;have N:=(b6 W).1
   by_cases T:p c=true
   ·rw[ai T];have⟨G,C,e⟩:=oK s p f (a+1) aO aO
    grind
   grind
def sL(s:ah):∀(f a:Nat),a<=s.length->a<=(skip s f a).1/\(skip s f a).1<=s.length
 |0,a,h=>⟨a8 _,h⟩
 |f+1,a,h=>by
  rw[skip]
  cases W:s[a]? with
  |none=>grind
  |some c =>
   simp only;have N:=(b6 W).1;split
   ·have:=sL s f (a+1) N;omega
   ·split
    ·rename_i i;have i:=nc i;have i:a+2<=s.length:=i;have o:=sf s s.length (a+2) i;have b:=rf s s.length (a+2) i aO;split
     ·omega
     ·rename_i d
      have G:ct s (iD s s.length (a+2)) [42,47]=true:=by
       grind
      have G:=nc G;have G:iD s s.length (a+2)+2<=s.length:=G;have:=sL s f (iD s s.length (a+2)+2) G;omega
    omega
def fY{d:Nat}{p q:RS}{t:T}(W:p.ok)(h:mX d p=some (t,q)):p.to q:=(rh _).1 _ _ _ _ W h
def pr:∀(f:Nat),(∀j p t q,p.ok->(∀a d,j=.cond a d->p.i<p.l.length)->mS f j p=some (t,q)->p.to q)/\(∀d T p l q,p.ok->mB f d T p=some (l,q)->p.to q)
 |0=>⟨fun j p t q _ _ h=>by simp[mS]at h,fun d T p l q _ h=>by simp[mB]at h⟩
 |f+1=>by
  have⟨A,E⟩:=pr f
  have u:∀d(p:RS)t q,p.ok->mS f (.block d) p=some (t,q)->p.to q:=fun d p t q W h=>A _ _ _ _ W (fun a C h=>by cases h) h
  refine⟨fun j p t q W m h=>?_,fun d T p l q W h=>?_⟩
  ·cases j with
   |block d =>
    rw[mS]at h;have X:=iF W d;refine X.trans ?_;have G:=X.ok W;generalize p.aW d=p at *
    try simp only at h
    have o:=bU G (s:=[123]) aD;split at h
    ·cases h
    ·rename_i l n k;have:=o.trans (E _ _ _ _ _ (o.ok G) k)
     cases h;exact zbQ
   |stmt d =>
    rw[mS]at h;have X:=iF W d;refine X.trans ?_;have G:=X.ok W;generalize p.aW d=p at *
    try simp only at h
    split at h
    ·rename_i H;have c:=dW H aD;have z:=c.trans (eU (c.ok G));have R:=z.trans (bU (z.ok G) (s:=[61]) aD);split at h
     ·cases h
     ·rename_i e n k;have:=R.trans (fY (R.ok G) k)
      cases h;exact zbQ
    ·split at h
     ·rename_i H;refine A _ _ _ _ G (fun a C _=>?_) h
      rcases H with H|H
      ·exact(dv H aD).1
      ·exact(dv H aD).1
     ·split at h
      ·rename_i H;have c:=dW H aD;split at h
       ·cases h
       ·rename_i e n k;have:=c.trans (fY (c.ok G) k)
        cases h;exact zbQ
      ·split at h
       ·have z:=eU G;have R:=z.trans (bU (z.ok G) (s:=[61]) aD);split at h
        ·cases h
        ·rename_i e n k;have:=R.trans (fY (R.ok G) k)
         cases h;exact zbQ
       ·split at h
        ·cases h
        ·rename_i e n k;have hx:=fY G k;split at h
         ·rename_i H;have c:=hx.trans (dW H.2.2 aD);split at h
          ·rename_i a r v Y N B;have:=c.trans (fY (c.ok G) B)
           cases h;exact zbQ
          ·cases h
         ·cases h;exact hx.trans (bU (hx.ok G) aD)
   |cond a d =>
    rw[mS]at h;have c:=cR (m a d rfl);have o:=c.trans (bU (c.ok W) (s:=[40]) aD)
    try simp only at h
    split at h
    ·cases h
    ·rename_i e n k;have hx:=o.trans (fY (o.ok W) k);have S:=hx.trans (bU (hx.ok W) (s:=[41]) aD);split at h
     ·cases h
     ·rename_i b Y F;have O:=S.trans (u _ _ _ _ (S.ok W) F);split at h
      ·rename_i H;have w:=O.trans (dW H.2 aD);split at h
       ·cases h
       ·rename_i J M Q
        cases h;exact w.trans (u _ _ _ _ (w.ok W) Q)
      grind
  ·rw[mB]at h;split at h
   ·split at h
    ·cases h
    ·rename_i a n k;have:=A _ _ _ _ W (fun a C h=>by cases h) k;exact this.trans (E _ _ _ _ _ (this.ok W) h)
   grind[jU]
structure Fn where
 name:ah
 params:List ah
 body:Int
structure Src where
 au:List ah
 aq:List Ar
 av:List Fn
 ae:List Nd
def nA(k:Int):Bool:=decide ((1:Int)<=k)&&decide (k<=6)
def jt(k:Int):Bool:=decide ((7:Int)<=k)&&decide (k<=13)
def bX(l:Nat):Nat->List T->Bool
 |_,[]=>true
 |i,t::r=>(if i<l then nA t.n.aj else t.n.aj==14)&&bX l (i+1) r
def ga(s:ah):Bool:=levels.any fun l=>l.contains s
mutual
def sub(ae:List Nd):Nat->Nat->Option T
 |0,_=>none
 |f+1,a=>match ae[a]? with
  |none=>none
  |some n=>match oV ae f n.aw []with
   |none=>none
   |some l=>some (.mk n l)
def oV(ae:List Nd):Nat->List Int->List T->Option (List T)
 |_,[],W=>some W
 |0,_::_,_=>none
 |f+1,k::r,W=>if k<0 then none else match sub ae f k.toNat with
  |none=>none
  |some t=>oV ae f r (W++[t])
end
mutual
def oS(ae:List Nd):Nat->Nat->Nat->Option Int
 |0,_,_=>none
 |f+1,a,d=>if ae.length<=a\/d>800 then some (-1)else match ae[a]? with
  |none=>none
  |some n=>oR ae f n.aw (a+1) d
def oR(ae:List Nd):Nat->List Int->Int->Nat->Option Int
 |_,[],next,_=>some next
 |0,_::_,_,_=>none
 |f+1,k::r,next,d=>if k=next then match oS ae f k.toNat (d+1)with
   |none=>none
   |some e=>if e<0 then some (-1)else oR ae f r e d
  else some (-1)
end
def own(n:Nd)(k:Nat)(l:Nat->Bool)(o:Bool):Bool :=
 if decide (n.at_<0)then false else if n.aj != 1&&n.n != 0 then false
 else if n.aj==1 then decide ((0:Int)<=n.n)&&(decide (n.n<=2147483647)&&(n.s==[]&&(k:Int)==0))
 else if n.aj==2 then bZ n.s&&(k:Int)==0
 else if n.aj==3 ||n.aj==7 ||n.aj==13 then bZ n.s&&((k:Int)==1&&l 1)
 else if n.aj==4 then bZ n.s&&l k
 else if n.aj==5 then(n.s==[45] ||n.s==[33] ||n.s==[126])&&((k:Int)==1&&l 1)
 else if n.aj==6 then ga n.s&&((k:Int)==2&&l 2)
 else if n.aj==8 then bZ n.s&&((k:Int)==2&&l 2)
 else if n.aj==9 then n.s==[]&&(((k:Int)==2 ||(k:Int)==3)&&l 1)
 else if n.aj==10 then n.s==[]&&((k:Int)==2&&l 1)
 else if n.aj==11 ||n.aj==12 then n.s==[]&&((k:Int)==1&&l 1)
 else if n.aj==14 then o&&n.s==[]
 else false
def cL(t:T):Bool:=own t.n t.aw.length (fun m=>bX m 0 t.aw) (t.aw.all fun x=>jt x.n.aj)
mutual
def ed:T->Bool
 |.mk n l=>dA l&&cL (.mk n l)
def dA:List T->Bool
 |[]=>true
 |t::r=>ed t&&dA r
end
mutual
def EU:T->Prop
 |.mk n l=>n.s.length<=1099511627776/\l.length<=1099511627776/\wc l
def wc:List T->Prop
 |[]=>True
 |t::r=>EU t/\wc r
end
def EW:∀{l:List T}{t:T},wc l->t∈l->EU t
 |[],_,_,h=>by cases h
 |a::r,t,h,hm=>by
  rw[wc]at h
  rcases List.mem_cons.mp hm with rfl|hm
  ·exact h.1
  ·exact EW h.2 hm
theorem EV:∀{l:List T}{t:T},wc l->EU t->wc (l++[t])
 |[],t,_,M=>⟨M,trivial⟩
 |a::r,t,h,M=>by
  rw[wc]at h;exact⟨h.1,EV h.2 M⟩
def Vv{ae:List Nd}(N:∀n∈ae,n.s.length<=1099511627776/\n.aw.length<=1099511627776):∀f:Nat,(∀a t,sub ae f a=some t->EU t)/\(∀ks T l,oV ae f ks T=some l->T.length+ks.length=l.length/\(wc T->wc l)):=by
 intro f
 induction f with
 |zero =>
  refine⟨fun a t h=>by simp[sub]at h,fun ks T l h=>?_⟩
  cases ks with
  |nil=>grind[oV]
  |cons k r=>simp[oV]at h
 |succ f O =>
  constructor
  ·intro a t h;rw[sub]at h
   cases c:ae[a]? with
   |none=>grind
   |some n =>
   rw[c]at h;simp only at h
   cases G:oV ae f n.aw []with
   |none=>grind
   |some l =>
   rw[G]at h;cases h;have j:=O.2 _ _ _ G;have i:=N n (bN c);exact⟨i.1,by grind,j.2 trivial⟩
  ·intro ks T l h
   cases ks with
   |nil=>grind[oV]
   |cons k r =>
    rw[oV]at h
    by_cases Y:k<0
    ·grind
    grind[EV]
def dm:List ah->Bool:=fun l=>l.all bZ
def nM(a:Ar):Bool:=bZ a.name&&!(decide (a.size<0))&&!(decide (2147483647<a.size))
def fN(ae:List Nd):Nat:=2*ae.length+4
def jr(ae:List Nd):List Fn->Int->Option (Option Int)
 |[],next=>some (some next)
 |f::r,next=>match oS ae (fN ae) next.toNat 0 with
  |none=>none
  |some e=>if f.body≠next\/bZ f.name=false\/e<0 then some none else if dm f.params=false then some none else match sub ae (fN ae) next.toNat with
   |none=>none
   |some t=>if t.n.aj≠14\/ed t=false then some none else jr ae r e
def oM(p:Src):Option Bool :=
 if dm p.au=false then some false else if p.aq.all nM=false then some false else match jr p.ae p.av 0 with
  |none=>none
  |some none=>some false
  |some (some next)=>some (next==(p.ae.length:Int)&&decide (next<=800))
end Go.Sp
namespace Go.Xp
section
variable{e:Int}{s:ah}{ts r:List Tok}
theorem A5(h:ba e s ts=.ok r):r=ts.tail/\aJ ts 0=s:=by
 grind[ba]
def vV(h:ba e s ts=.ok r):r.length<=ts.length:=by
 rw[(A5 h).1,List.length_tail];omega
def xN(G:s≠[])(h:ba e s ts=.ok r):r.length<ts.length:=by
 have⟨o,b⟩:=A5 h;rw[o,List.length_tail]
 cases ts with
 |nil=>exact absurd b.symm G
 |cons=>simp
end
def dv{s:ah}{ts:List Tok}(G:s≠[])(h:aJ ts 0=s):ts.tail.length<ts.length:=by
 cases ts with
 |nil=>exact absurd h.symm G
 |cons=>simp
theorem qK{e:Int}{s:ah}{ts:List Tok}{x:Er}(h:ba e s ts=.error x):x≠bJ:=by
 unfold ba at h;grind[bJ]
def En{e:Int}{s:ah}{ts r:List Tok}(h:name e ts=.ok (s,r)):r.length<ts.length:=by
 unfold name at h;grind
theorem HK{e:Int}{ts:List Tok}{x:Er}(h:name e ts=.error x):x≠bJ:=by
 unfold name at h;grind[bJ]
def oT:tJ->Nat->Nat
 |.operand _,n=>20*n+1
 |.loop _ _ _,n=>20*n+1
 |.level k _,n=>20*n+2+(9-k)
 |.expr _,n=>20*n+12
def sk(W:List T)(n:Nat):Nat:=match W with|[]=>20*n+14|_=>20*n+1
def zF:tJ->Prop
 |.level k _=>k<=9
 |.loop k _ _=>k<9
 |_=>True
def good(e:Int)(f:Nat)(j:tJ)(ts:List Tok):Prop :=
 zF j->(∀t r,rd e f j ts=.ok (t,r)->r.length<=ts.length)/\(oT j ts.length<=f->rd e f j ts≠.error bJ)
def Qb(e:Int)(f aW:Nat)(W:List T)(ts:List Tok):Prop :=
 (∀t r,rd.args e f aW W ts=.ok (t,r)->r.length<=ts.length)/\(sk W ts.length<=f->rd.args e f aW W ts≠.error bJ)
theorem Zz{a:Int}:((7,a):Er)≠bJ:=by intro h;cases h
def Bg(e:Int):∀f,(∀j ts,good e f j ts)/\(∀aW T ts,Qb e f aW T ts)
 |0=>by
  refine⟨fun j ts _=>⟨fun t r h=>?_,fun h=>?_⟩,fun aW T ts=>⟨fun t r h=>?_,fun h=>?_⟩⟩
  ·grind[rd]
  ·cases j<;>simp only[oT]at h<;>omega
  ·grind[rd.args]
  ·unfold sk at h;grind
 |f+1=>by
  have⟨O,S⟩:=Bg e f;constructor
  ·intro j ts Y
   cases j with
   |expr aW =>
    have⟨o,c⟩:=O (.level 0 (aW+1)) ts (bl _);rw[rd];split
    ·exact zcB
    ·exact⟨o,fun h=>c (by grind[oT])⟩
   |level k aW =>
    have Y:k<=9:=Y;rw[rd];split
    ·have⟨o,c⟩:=O (.operand aW) ts trivial;exact⟨o,fun h=>c (by grind[oT])⟩
    ·obtain⟨o,c⟩:=O (.level (k+1) aW) ts (by grind[zF]);split
     ·grind[oT]
     ·rename_i out v hx;obtain⟨G,C⟩:=O (.loop k aW out) v (by show k<9;omega);have:=o _ _ hx;exact⟨fun t r h=>jC (G t r h) this,fun h=>C (by grind[oT])⟩
   |loop k aW out =>
    have Y:k<9:=Y
    cases ts with
    |nil=>rw[rd];simp
    |cons m r0 =>
     rw[rd];split
     ·obtain⟨o,c⟩:=O (.level (k+1) aW) r0 (by grind[zF]);split
      ·grind[oT]
      ·rename_i b r hx;have⟨G,C⟩:=O (.loop k aW (one 6 m.at_ m.s [out,b])) r Y;have:=o _ _ hx;exact⟨fun t r h=>by grind,fun h=>C (by grind[oT])⟩
     simp
   |operand aW =>
    cases ts with
    |nil=>rw[rd];split<;>exact⟨fun t r h=>zfa,fun _ h=>zfa⟩
    |cons m r0 =>
    rw[rd];split
    ·exact zcB
    split
    ·split
     ·have⟨o,c⟩:=O (.operand (aW+1)) r0 trivial;split
      ·grind[oT]
      grind
     split
     ·have⟨o,c⟩:=O (.expr (aW+1)) r0 trivial;split
      ·grind[oT]
      ·rename_i a r hx;have:=o _ _ hx;split
       ·grind[qK]
       ·rename_i z l;have:=vV l
        grind
     ·exact zcB
    split
    ·simp
    split
    ·grind[HK]
    ·rename_i s r d;have M:=En d;simp only[length_cons]at M
     have N:r.tail.length<=r.length:=by simp
     split
     ·have⟨o,c⟩:=O (.expr (aW+1)) r.tail trivial;split
      ·grind[oT]
      ·rename_i a z hx;have:=o _ _ hx;split
       ·grind[qK]
       ·rename_i Q l;have:=vV l
        grind
     split
     ·have⟨o,c⟩:=S (aW+1) [] r.tail;split
      ·rename_i x hx;exact⟨fun t r h=>zfa,fun h q=>c (by grind[oT,length_cons,sk]) (hx.trans ze2)⟩
      grind
     grind
  ·intro aW T ts;unfold Qb;rw[rd.args];split
   ·simp
   ·by_cases u:T=[]
    ·subst u;simp only[if_true];have⟨o,c⟩:=O (.expr aW) ts trivial;split
     ·rename_i x hx;exact⟨fun t r h=>zfa,fun h q=>c (by grind[sk,oT]) (hx.trans ze2)⟩
     ·rename_i a r hx;have:=o _ _ hx;have⟨G,C⟩:=S aW ([]++[a]) r;exact⟨fun t r h=>by grind,fun h=>C (by grind[sk])⟩
    ·rw[ab u]
     have w:∀n,sk T n=20*n+1:=by simp[sk]
     split
     ·grind[qK]
     ·rename_i v l;have N:=xN aD l;have⟨o,c⟩:=O (.expr aW) v trivial;split
      ·grind[oT]
      ·rename_i a r hx;have:=o _ _ hx;have⟨G,C⟩:=S aW (T++[a]) r
       have i:sk (T++[a]) r.length=20*r.length+1:=by
        simp[sk]
       grind
section
variable{e:Int}{f:Nat}{j:tJ}{ts:List Tok}
def Ve{t:T}{r:List Tok}(Y:zF j)(h:rd e f j ts=.ok (t,r)):r.length<=ts.length:=((Bg e f).1 j ts Y).1 t r h
def xR(Y:zF j)(h:oT j ts.length<=f):rd e f j ts≠.error bJ:=((Bg e f).1 j ts Y).2 h
end
section
variable{e:Int}{aW:Nat}
theorem BR{ts:List Tok}:expr e aW ts≠.error bJ:=xR (j:=.expr aW) trivial (by simp[oT,nw])
def yL{ts:List Tok}{t:T}{r:List Tok}(h:expr e aW ts=.ok (t,r)):r.length<=ts.length:=Ve (j:=.expr aW) trivial h
def yR{a b:ah}{ts r:List Tok}{t:T}(ha:a≠[])(h:inner e aW a b ts=.ok (t,r)):r.length<ts.length:=by
 unfold inner at h;split at h
 ·cases h
 ·rename_i Z o;split at h
  ·cases h
  ·rename_i a1 i c;split at h
   ·cases h
   ·rename_i X G;cases h;have:=xN ha o;have:=yL c;have:=vV G;omega
theorem yQ{a b:ah}{ts:List Tok}{x:Er}(h:inner e aW a b ts=.error x):x≠bJ:=by
 grind[inner,qK,BR]
def EP{ts r:List Tok}{t:ah × T}(h:lZ e aW ts=.ok (t,r)):r.length<ts.length:=by
 unfold lZ at h;split at h
 ·cases h
 ·rename_i s Z o;split at h
  ·cases h
  ·rename_i a i b;cases h;have:=En o;have:=yR aD b;omega
theorem EO{ts:List Tok}{x:Er}(h:lZ e aW ts=.error x):x≠bJ:=by
 grind[lZ,HK,yQ]
theorem DC{ts:List Tok}{x:Er}(h:expr e aW ts=.error x):x≠bJ:=fun o=>BR (h.trans (by rw[o]))
theorem MK{ts r:List Tok}{t:T}(h:simple e aW ts=.ok (t,r)):r.length<ts.length:=by
 unfold simple at h;split at h
 ·grind
 ·rename_i l r0;split at h
  ·split at h
   ·cases h
   ·rename_i s a Z o;cases h;exact EP o
  ·split at h
   ·cases h
   ·rename_i a Z o;have:=yL o;split at h
    ·split at h
     ·cases h
     ·rename_i v i b;cases h;have:=yR aD b;omega
    ·split at h
     ·cases h
     ·rename_i i b;cases h;have:=xN aD b;omega
theorem MJ{ts:List Tok}{x:Er}(h:simple e aW ts=.error x):x≠bJ:=by
 unfold simple at h
 grind[DC,Zz,EO,yQ,qK]
end
def Jb(e:Int)(f:Nat)(j:sP)(ts:List Tok):Prop :=
 (∀t r,rs e f j ts=.ok (t,r)->r.length<ts.length)/\(3*ts.length+1<=f->rs e f j ts≠.error bJ)
def Ja(e:Int)(f aW:Nat)(W:List T)(ts:List Tok):Prop :=
 (∀t r,rs.body e f aW W ts=.ok (t,r)->r.length<ts.length)/\(3*ts.length+2<=f->rs.body e f aW W ts≠.error bJ)
def H0(e:Int):∀f,(∀j ts,Jb e f j ts)/\(∀aW T ts,Ja e f aW T ts)
 |0=>by
  grind[rs,rs.body,Jb,Ja]
 |f+1=>by
  have⟨O,S⟩:=H0 e f;constructor
  ·intro j ts;unfold Jb
   cases j with
   |block aW =>
    rw[rs];split
    ·simp[Rd,Er,place,bJ]
    ·split
     ·grind[qK]
     ·rename_i r0 l;have o:=xN aD l;have⟨q,d⟩:=S (aW+1) [] r0
      grind
   |stmt aW =>
    rw[rs];split
    ·simp[Rd,Er,place,bJ]
    ·simp only;split
     ·rename_i k;have o:=dv aD k;split
      ·grind[EO]
      ·rename_i s a Z hx;have:=EP hx
       grind
     split
     ·rename_i k
      have o:ts.tail.length<ts.length:=by
       rcases k with k|k<;>exact dv aD k
      split
      ·grind[yQ]
      ·rename_i c i hx;have W:=yR aD hx;have⟨q,d⟩:=O (.block (aW+1)) i;split
       ·grind
       ·rename_i b R B;have m:=q _ _ B;split
        ·split
         ·have⟨G,C⟩:=O (.block (aW+1)) R.tail
          grind
         grind
        grind
     split
     ·rename_i k;have o:=dv aD k;split
      ·grind[DC]
      ·rename_i a i hx;have:=yL hx;split
       ·grind[qK]
       ·rename_i R l;have:=vV l
        grind
     grind[MK,MJ]
  ·intro aW T ts;unfold Ja;rw[rs.body];split
   ·rename_i k;have o:=dv aD k
    grind
   ·have⟨q,d⟩:=O (.stmt aW) ts;split
    ·grind
    ·rename_i a r hx;have:=q _ _ hx;have⟨G,C⟩:=S aW (T++[a]) r
     grind
def vD{e:Int}{aW:Nat}{ts:List Tok}:block e aW ts≠.error bJ:=((H0 e _).1 (.block aW) ts).2 (by grind[nw])
end Go.Xp
namespace Go.Sp
open Go.Xp
structure On(p:RS)(ts:List Tok):Prop where
 code:p.code=0
 le:p.i<=p.l.length
 rest:p.l.drop p.i=ts
 kinds:∀t∈p.l,t.aj=1\/t.aj=2\/t.aj=3
def cS(p q:RS):Except Er (List Tok)->Prop
 |.ok r=>On q r/\q.l=p.l/\q.e=p.e
 |.error x=>q.code=x.1/\x.1≠0/\q.at_=x.2/\q.l=p.l/\q.e=p.e
def eW{R:Type}(p q:RS)(t:R):Rd R->Prop
 |.ok (k,r)=>t=k/\cS p q (.ok r)
 |.error x=>cS p q (.error x)
section
variable{p q q':RS}{ts r:List Tok}{x:Er}
theorem cS.err(h:cS p q (.error x)):q.code≠0:=by rw[h.1];exact h.2.1
theorem cS.tr{y:Except Er (List Tok)}(h:cS p q (.ok r))(k:cS q q' y):cS p q' y:=by
 have⟨_,o,b⟩:=h
 cases y with
 |ok r=>grind[cS]
 |error x=>grind[cS]
def eW.tr{R:Type}{t:R}{y:Rd R}(h:cS p q (.ok r))(k:eW q q' t y):eW p q' t y:=by
 cases y with
 |ok r=>have⟨l,r⟩:=r;exact⟨k.1,h.tr k.2⟩
 |error x=>exact h.tr (y:=.error x) k
def On.self(h:On p ts):cS p p (.ok ts):=⟨h,rfl,rfl⟩
def On.at(h:On p ts)(k:Nat):p.l[p.i+k]?=ts[k]?:=by rw[<-h.rest,List.getElem?_drop]
theorem On.aJ(h:On p ts)(k:Nat):p.aJ k=Go.Xp.aJ ts k:=by
 unfold RS.aJ Go.Xp.aJ;rw[ai h.code,h.at]
 try rfl
theorem On.place(h:On p ts):p.place=Go.Xp.place p.e ts:=by
 have o:=h.at 0;unfold RS.place;rw[Nat.add_zero]at o;rw[o]
 cases ts with
 |nil=>rfl
 |cons t r=>rfl
theorem On.next{t:Tok}(h:On p (t::r)):cS p p.next (.ok r):=by
 have o:p.i<p.l.length:=by
  have:=congrArg List.length h.rest
  grind
 refine⟨⟨h.code,o,?_,h.kinds⟩,rfl,rfl⟩;show p.l.drop (p.i+1)=r;rw[<-List.tail_drop,h.rest];rfl
theorem On.fail(h:On p ts)(c a:Int)(W:c≠0):cS p (p.fail c a) (.error (c,a)):=by
 unfold RS.fail;rw[ai h.code];exact⟨rfl,W,rfl,rfl,rfl⟩
theorem td(h:p.code≠0)(c a:Int):p.fail c a=p:=by grind[RS.fail]
theorem mg(h:p.code≠0)(k:Nat):p.aJ k=[]:=by grind[RS.aJ]
theorem iQ(h:p.code≠0){s:ah}(G:s≠[]):p.ba s=p:=by
 unfold RS.ba
 simp_all[mg,ab,td]
theorem qD(h:p.code≠0)(d:Nat):p.aW d=p:=by grind[td,RS.aW]
theorem eA{s:ah}(G:s≠[])(h:Go.Xp.aJ ts 0=s):∃t,ts=t::ts.tail/\t.aj=3/\t.s=s:=by
 cases ts with
 |nil=>exact absurd h.symm G
 |cons t r =>
  grind[Go.Xp.aJ,getElem?_cons_zero,dN]
theorem On.ba(h:On p ts){s:ah}(G:s≠[]):cS p (p.ba s) (Go.Xp.ba p.e s ts):=by
 unfold RS.ba Go.Xp.ba;rw[h.aJ]
 by_cases o:Go.Xp.aJ ts 0=s
 ·rw[ai o,ai o];have⟨t,M,_⟩:=eA G o;rw[M]at h
  exact h.next
 ·rw[ab o,ab o,h.place];exact h.fail 7 _ aD
theorem On.name(h:On p ts):eW p p.name.2 p.name.1 (Go.Xp.name p.e ts)\/∃x,Go.Xp.name p.e ts=.error x/\cS p p.name.2 (.error x):=by
 have o:=h.at 0;rw[Nat.add_zero]at o;unfold RS.name;rw[ai h.code,o]
 cases ts with
 |nil=>exact .inr ⟨_,rfl,by rw[h.place];exact h.fail 7 _ aD⟩
 |cons t r =>
  simp only[getElem?_cons_zero,Go.Xp.name];split
  ·split
   ·exact .inr ⟨_,rfl,h.fail 8 _ aD⟩
   ·exact .inl ⟨rfl,h.next⟩
  ·refine .inr ⟨_,rfl,?_⟩;have:p.place=t.at_:=h.place;rw[this];exact h.fail 7 _ aD
end
theorem zE{p:RS}(h:p.code≠0):(∀g d,1<=g->mE g (.operand d) p=some (T.zero,p))/\(∀g k d out,1<=g->mE g (.loop k d out) p=some (out,p))/\(∀n g k d,k+n=9->n+2<=g->mE g (.level k d) p=some (T.zero,p)):=by
 have o:∀g d,1<=g->mE g (.operand d) p=some (T.zero,p):=by
  intro g d X
  cases g with
  |zero=>omega
  |succ g=>rw[mE];grind[qD,td]
 have b:∀g k d out,1<=g->mE g (.loop k d out) p=some (out,p):=by
  intro g k d out X
  cases g with
  |zero=>omega
  |succ g=>grind[mE]
 refine⟨o,b,fun n=>?_⟩
 induction n with
 |zero =>
  intro g k d N X
  cases g with
  |zero=>omega
  |succ g=>grind[mE,T.zero]
 |succ n O =>
  intro g k d N X
  cases g with
  |zero=>omega
  |succ g =>
   grind[mE,T.zero]
def UR{p:RS}(h:p.code≠0){g d:Nat}(hg:12<=g):mE g (.expr d) p=some (T.zero,p):=by
 cases g with
 |zero=>omega
 |succ g=>grind[qD,zE,mE,T.zero]
def KF(f:Nat):Nat:=2*f+20
structure JE(f:Nat):Prop where
 expr:∀d ts p,On p ts->rd p.e f (.expr d) ts≠.error bJ->∃t q,(∀g,KF f<=g->mE g (.expr d) p=some (t,q))/\eW p q t (rd p.e f (.expr d) ts)
 level:∀k d ts p,k<=9->On p ts->rd p.e f (.level k (d+1)) ts≠.error bJ->∃t q,(∀g,KF f<=g->mE g (.level k d) p=some (t,q))/\eW p q t (rd p.e f (.level k (d+1)) ts)
 loop:∀k d out ts p,k<9->On p ts->rd p.e f (.loop k (d+1) out) ts≠.error bJ->∃t q,(∀g,KF f<=g->mE g (.loop k d out) p=some (t,q))/\eW p q t (rd p.e f (.loop k (d+1) out) ts)
 operand:∀d ts p,On p ts->rd p.e f (.operand d) ts≠.error bJ->∃t q,(∀g,KF f<=g->mE g (.operand d) p=some (t,q))/\eW p q t (rd p.e f (.operand d) ts)
 args:∀d acc ts p,acc≠[]->On p ts->rd.args p.e f d acc ts≠.error bJ->∃t q,(∀g,KF f<=g->pM g d acc p=some (t,q))/\eW p q t (rd.args p.e f d acc ts)
 args0:∀d ts p,On p ts->rd.args p.e f d [] ts≠.error bJ->∃t q,(∀g,KF f<=g->mL g d p=some (t,q))/\eW p q t (rd.args p.e f d [] ts)
theorem zR:∀k,(levels.getD k []).contains []=false:=by
 intro k
 have h:∀l∈levels,l.contains ([]:ah)=false:=by decide
 grind
def up{f g:Nat}(h:KF (f+1)<=g):∃Q,g=Q+1/\KF f+1<=Q:=⟨g-1,by grind[KF],by grind[KF]⟩
def xo{β:Type}{n m:Nat}(j:n<m){F:Nat->Option (β × RS)}{R:β->RS->Prop}(h:∃t q,(∀g,n<=g->F (g+1)=some (t,q))/\R t q):∃t q,(∀g,m<=g->F g=some (t,q))/\R t q:=by
 have⟨t,q,o,b⟩:=h;refine⟨t,q,fun g X=>?_,b⟩;obtain⟨k,rfl⟩:∃k,g=k+1:=⟨g-1,by omega⟩;exact o k aO
def xv(f:Nat):KF f+1<KF (f+1):=by unfold KF;omega
def eW.fT{R β:Type}{p i:RS}{r0:List Tok}{n m:Nat}{X:Rd R}{Y:Rd β}{F:Nat->Option (β × RS)}{G:Nat->Option (R × RS)}(hn:cS p i (.ok r0))
  (O:X≠.error bJ->∃t q,(∀g,n<=g->G g=some (t,q))/\eW i q t X)(h:Y≠.error bJ)
  (err:∀(b:R)(q:RS),q.code≠0->(∀g,n<=g->G g=some (b,q))->∃t,∀g,m<=g->F g=some (t,q))
  (ok:∀(b:R)(q:RS)(r:List Tok),X=.ok (b,r)->cS p q (.ok r)->(∀g,n<=g->G g=some (b,q))->∃t q',(∀g,m<=g->F g=some (t,q'))/\eW q q' t Y)
  (J:∀x,X=.error x->Y=.error x:=by intro x e;first|rw[e]|erw[e]):∃t q,(∀g,m<=g->F g=some (t,q))/\eW p q t Y:=by
 cases o:X with
 |error x =>
  obtain⟨b,q,s,c⟩:=O (by rw[o];exact fun u=>h (by rw[J x o,Except.error.inj u]));obtain⟨t,M⟩:=err b q (cS.err (by rw[o]at c;exact c)) s;rw[o]at c;rw[J x o];exact⟨t,q,M,hn.tr (y:=.error x) c⟩
 |ok x =>
  have⟨a,r⟩:=x;obtain⟨b,q,s,c⟩:=O (by rw[o];simp);rw[o]at c;obtain⟨rfl,c⟩:=c;have⟨t,q',C,j⟩:=ok b q r o (hn.tr c) s;exact⟨t,q',C,eW.tr (hn.tr c) j⟩
theorem cS.ba{R:Type}{p q:RS}{r:List Tok}{s:ah}{t:R}(h:cS p q (.ok r))(G:s≠[]):eW q (q.ba s) t (match Go.Xp.ba p.e s r with|.error x=>.error x|.ok r=>.ok (t,r)):=by
 have j:=h.1.ba G;rw[h.2.2]at j
 cases T:Go.Xp.ba p.e s r with
 |error x=>rw[T]at j;exact j
 |ok S=>rw[T]at j;exact⟨rfl,j⟩
def je(f:Nat):JE f:=by
 induction f with
 |zero =>
  refine⟨fun d ts p _ h=>absurd ?_ h,fun k d ts p _ _ h=>absurd ?_ h,fun k d out ts p _ _ h=>absurd ?_ h,fun d ts p _ h=>absurd ?_ h,fun d E ts p _ _ h=>absurd ?_ h,fun d ts p _ h=>absurd ?_ h⟩<;>simp[rd,rd.args]
 |succ f C =>
  refine⟨fun d ts p c h=>xo (xv f) ?_,fun k d ts p hk c h=>xo (xv f) ?_,fun k d out ts p hk c h=>xo (xv f) ?_,fun d ts p c h=>xo (xv f) ?_,fun d E ts p YB c h=>xo (xv f) ?_,fun d ts p c h=>xo (xv f) ?_⟩
  ·rw[rd]at h |-
   by_cases W:d>60
   ·rw[ai W];have J:=c.fail 9 p.place aD;refine⟨T.zero,p.fail 9 p.place,fun g j=>?_,by rw[<-c.place];exact J⟩;rw[mE];unfold RS.aW;rw[ai W];exact(zE J.err).2.2 9 g 0 d rfl (by grind[KF])
   ·rw[ab W]at h |-;have⟨t,q,h1,M⟩:=C.level 0 d ts p aO c h;refine⟨t,q,fun g j=>?_,M⟩;rw[mE];grind[mE,RS.aW]
  ·rw[rd]at h |-
   by_cases h9:k=9
   ·rw[ai h9]at h |-;have⟨t,q,h1,M⟩:=C.operand (d+1) ts p c h;exact⟨t,q,fun g j=>by grind[mE],M⟩
   ·rw[ab h9]at h |-
    refine eW.fT c.self (C.level (k+1) d ts p aO c) h (fun b q z e=>⟨b,fun g j=>?_⟩) fun b q r w o e=>?_
    ·rw[mE,ab h9,e g aO];exact(zE z).2.1 g _ _ _ aO
    ·erw[w]at h |-;simp only at h |-;rw[<-o.2.2]at h |-
     have⟨t,q',h3,R⟩:=C.loop k d b r q aO o.1 h;exact⟨t,q',fun g j=>by grind[mE],R⟩
  ·cases ts with
   |nil =>
    rw[rd];refine⟨out,p,fun g j=>?_,rfl,c.self⟩;rw[mE,ab];rw[c.aJ];rintro⟨_,h0⟩
    grind[aJ,zR]
   |cons t r =>
    rw[rd]at h |-;have hs:p.aJ 0=dN t:=c.aJ 0
    by_cases H:t.aj=3/\t.s∈levels.getD k []
    ·rw[ai H]at h |-;have B:p.l[p.i]?=some t:=c.at 0;have S:p.code=0/\(levels.getD k []).contains (p.aJ 0)=true:=⟨c.code,by simp_all[dN,ai]⟩
     refine eW.fT c.next (C.level (k+1) d r p.next aO c.next.1) h (fun b q z e=>⟨one 6 t.at_ t.s [out,b],fun g j=>?_⟩) fun b q O w o e=>?_
     ·rw[mE,ai S,B];simp only;rw[e g aO];exact(zE z).2.1 g _ _ _ aO
     ·erw[w]at h |-;simp only at h |-;rw[<-o.2.2]at h |-
      have⟨t3,q3,h3,R⟩:=C.loop k d (one 6 t.at_ t.s [out,b]) O q hk o.1 h;exact⟨t3,q3,fun g j=>by grind[mE],R⟩
    ·rw[ab H];refine⟨out,p,fun g j=>?_,rfl,c.self⟩;rw[mE,ab]
     grind[dN,zR]
  ·rw[rd.eq_def]at h |-;simp only at h |-
   by_cases W:d>60
   ·rw[ai W];have J:=c.fail 9 p.place aD;refine⟨T.zero,p.fail 9 p.place,fun g j=>?_,by rw[<-c.place];exact J⟩;rw[mE];unfold RS.aW;rw[ai W];simp[J.err,td J.err]
   ·rw[ab W]at h |-
    have hdp:p.aW d=p:=by grind[RS.aW]
    cases ts with
    |nil =>
     have h0:p.l[p.i]?=none:=c.at 0;exact⟨T.zero,p.fail 7 p.place,fun g j=>by grind[mE,T.zero,RS.fail,RS.place],by rw[c.place];exact c.fail 7 _ aD⟩
    |cons t r =>
     simp only at h |-;have B:p.l[p.i]?=some t:=c.at 0
     have v:=c.next
     have n:=fun g=>mE.eq_def (g+1) (.operand d) p
     simp only[hdp,c.code,B,if_true]at n
     by_cases h3:t.aj=3
     ·rw[ai h3]at h |-;simp only[show ¬t.aj=1 by omega,show ¬t.aj=2 by omega,if_false]at n
      by_cases hu:t.s=[45]\/t.s=[33]\/t.s=[126]
      ·rw[ai hu]at h |-;simp only[ai hu]at n
       exact eW.fT v (C.operand (d+1) r p.next v.1) h (fun b q z e=>⟨_,fun g j=>by rw[n,e g aO]⟩) fun b q O w o e=>by erw[w];exact⟨_,_,fun g j=>by rw[n,e g aO],rfl,o.1.self⟩
      ·rw[ab hu]at h |-;simp only[ab hu]at n
       by_cases u:t.s=[40]
       ·rw[ai u]at h |-;simp only[ai u]at n
        exact eW.fT v (C.expr (d+1) r p.next v.1) h (fun b q z e=>⟨b,fun g j=>by rw[n,e g aO];simp only;rw[iQ z aD]⟩) fun b q O w o e=>by erw[w];exact⟨_,_,fun g j=>by rw[n,e g aO],o.ba aD⟩
       ·rw[ab u]at h |-;simp only[ab u]at n;exact⟨_,_,fun g j=>n g,c.fail 7 _ aD⟩
     ·rw[ab h3]at h |-
      by_cases h1:t.aj=1
      ·rw[ai h1];simp only[ai h1]at n;exact⟨_,p.next,fun g j=>n g,rfl,v⟩
      ·rw[ab h1]at h |-
       have M:t.aj=2:=by have:=c.kinds t (bN B);omega
       simp only[ab h1,ai M]at n
       by_cases A:t.s.length>12
       ·have Y:name p.e (t::r)=.error (8,t.at_):=by simp[name,M,A]
        rw[Y];have J:=c.fail 8 t.at_ aD;refine⟨one 2 t.at_ [] [],p.fail 8 t.at_,fun g j=>?_,J⟩
        have Z:p.name=([],p.fail 8 t.at_):=by unfold RS.name;simp[c.code,B,M,A]
        rw[n,Z];obtain⟨g,rfl⟩:∃F,g=F+1:=⟨g-1,by omega⟩;rw[mE,ab (by rw[mg J.err];decide),ab (by rw[mg J.err];decide)]
       ·have Y:name p.e (t::r)=.ok (t.s,r):=by simp[name,M,A]
        have Z:p.name=(t.s,p.next):=by unfold RS.name;simp[c.code,B,M,A]
        rw[Y]at h |-;simp only at h |-;rw[Z]at n
        have ym:p.next.aJ 0=aJ r 0:=v.1.aJ 0
        have Q:=fun g=>mE.eq_def (g+1) (.named t.at_ t.s d) p.next
        simp only[ym]at Q
        by_cases u:aJ r 0=[91]
        ·rw[ai u]at h |-;have⟨tb,G,_⟩:=eA aD u;have m:=v.1;rw[G]at m
         have m:=v.tr m.next
         simp only[ai u]at Q
         have hF:∀b q,(∀g,KF f<=g->mE g (.expr (d+1)) p.next.next=some (b,q))->∀g,KF f+1<=g->mE (g+1) (.operand d) p=some (one 3 t.at_ t.s [b],q.ba [93]):=fun b q e g j=>by
          exact zd4
         exact eW.fT m (C.expr (d+1) r.tail p.next.next m.1) h (fun b q z e=>⟨_,by have:=hF b q e;rwa[iQ z aD]at this⟩) fun b q O w o e=>by erw[w];exact⟨_,_,hF b q e,o.ba aD⟩
        ·rw[ab u]at h |-;simp only[ab u]at Q
         by_cases H:aJ r 0=[40]
         ·rw[ai H]at h |-;have⟨tb,G,_⟩:=eA aD H;have m:=v.1;rw[G]at m
          have m:=v.tr m.next
          simp only[ai H]at Q
          have hF:∀b q,(∀g,KF f<=g->mL g (d+1) p.next.next=some (b,q))->∀g,KF f+1<=g->mE (g+1) (.operand d) p=some (one 4 t.at_ t.s b,q):=fun b q e g j=>by
           exact zd4
          exact eW.fT m (C.args0 (d+1) r.tail p.next.next m.1) h (fun b q z e=>⟨_,hF b q e⟩) fun b q O w o e=>by erw[w];exact⟨_,_,hF b q e,rfl,o.1.self⟩
         ·rw[ab H];simp only[ab H]at Q;refine⟨one 2 t.at_ t.s [],p.next,fun g j=>?_,rfl,v⟩;obtain⟨g,rfl⟩:∃F,g=F+1:=⟨g-1,by omega⟩;rw[n,Q]
  ·rw[rd.args]at h |-;have ym:p.aJ 0=aJ ts 0:=c.aJ 0;have N:=c.ba (s:=[41]) aD;unfold Go.Xp.ba at N
   by_cases u:aJ ts 0=[41]
   ·rw[ai u];rw[ai u]at N;exact⟨E,p.ba [41],fun g j=>by grind[pM,RS.ba],rfl,N⟩
   ·rw[ab u,ab YB]at h |-;rw[ab u]at N
    by_cases H:aJ ts 0=[44]
    ·have X:Go.Xp.ba p.e [44] ts=.ok ts.tail:=by grind[ba]
     rw[X]at h |-;simp only at h |-;have⟨tb,G,_⟩:=eA aD H;have v:=c;rw[G]at v
     have v:=v.next
     refine eW.fT v (C.expr d ts.tail p.next v.1) h (fun b q z e=>⟨E++[b],fun g j=>?_⟩) fun b q O w o e=>?_
     ·rw[pM,ai ze2,e g aO];exact zcI
     ·erw[w]at h |-;simp only at h |-;rw[<-o.2.2]at h |-
      have⟨t3,q3,h3,R⟩:=C.args d (E++[b]) O q ze3 o.1 h;exact⟨t3,q3,fun g j=>by grind[pM],R⟩
    ·have X:Go.Xp.ba p.e [44] ts=.error (7,place p.e ts):=by grind[ba]
     rw[X];exact⟨E,p.ba [41],fun g j=>by grind[pM,RS.ba],N⟩
  ·rw[rd.args]at h |-;have ym:p.aJ 0=aJ ts 0:=c.aJ 0
   by_cases u:aJ ts 0=[41]
   ·rw[ai u];have N:=c.ba (s:=[41]) aD;unfold Go.Xp.ba at N;rw[ai u]at N;exact⟨[],p.ba [41],fun g j=>by grind[mL,RS.ba],rfl,N⟩
   ·rw[ab u,ai rfl]at h |-;simp only at h |-
    refine eW.fT c.self (C.expr d ts p c) h (fun b q z e=>⟨[b],fun g j=>?_⟩) fun b q O w o e=>?_
    ·rw[mL,ab ze2,e g aO];exact zcI
    ·erw[w]at h |-;simp only at h |-;rw[<-o.2.2]at h |-
     have⟨t3,q3,h3,R⟩:=C.args d ([]++[b]) O q ze3 o.1 h;exact⟨t3,q3,fun g j=>by grind[mL],R⟩
end Go.Sp
namespace Go.Xp
def W0(e:Int):∀f,(∀j ts,rd e f j ts=.error bJ\/rd e (f+1) j ts=rd e f j ts)/\(∀d T ts,rd.args e f d T ts=.error bJ\/rd.args e (f+1) d T ts=rd.args e f d T ts):=by
 intro f
 induction f with
 |zero=>exact⟨fun j ts=>.inl (by simp[rd]),fun d T ts=>.inl zfl⟩
 |succ f O =>
  have⟨H,R⟩:=O;refine⟨fun j ts=>?_,fun d T ts=>?_⟩
  ·rw[rd.eq_def e (f+1+1),rd.eq_def e (f+1)]
   cases j with
   |expr d =>
    grind
   |level k d =>
    grind
   |loop k d out =>
    grind
   |operand d =>
    simp only;split
    ·simp
    ·cases ts with
     |nil=>simp
     |cons t r =>
      grind
  grind[rd.args]
def HU{e:Int}{f Z:Nat}{j:tJ}{ts:List Tok}(h:rd e f j ts≠.error bJ)(hf:f<=Z):rd e Z j ts=rd e f j ts:=by
 obtain⟨k,rfl⟩:=Nat.exists_eq_add_of_le hf;clear hf
 induction k with
 |zero=>rfl
 |succ k O =>
  rcases(W0 e (f+k)).1 j ts with o|o
  ·grind
  grind
def AL{e:Int}{f d:Nat}{ts:List Tok}(h:20*ts.length+12<=f):rd e f (.expr d) ts=expr e d ts:=by
 have o:rd e (20*ts.length+12) (.expr d) ts≠.error bJ:=xR (j:=.expr d) trivial (a8 _);rw[HU o h];unfold expr nw;exact(HU o aO).symm
def Tq(t:T):Prop:=t.n.aj=3->∃a,t.aw=[a]
def Mx(e:Int):∀f j,(∀k d out,j≠.loop k d out)->∀t r,rd e f j []≠.ok (t,r):=by
 intro f
 induction f with
 |zero=>simp[Rd,rd,Er]
 |succ f O =>
  intro j Y t r h;rw[rd.eq_def]at h
  grind
def Mw(e:Int):∀f j ts t r,(∀k d out,j=.loop k d out->Tq out)->rd e f j ts=.ok (t,r)->Tq t:=by
 intro f
 induction f with
 |zero=>simp[Tq,Rd,rd,Er]
 |succ f O =>
  intro j ts t r Y h;rw[rd.eq_def]at h
  cases j with
  |expr d =>
   grind
  |level k d =>
   grind
  |loop k d out =>
   cases ts with
   |nil=>grind
   |cons a z =>
    simp only at h;split at h
    ·split at h
     ·cases h
     ·exact O _ _ _ _ (fun N w M u=>by cases u;intro G;exact absurd G (by simp[one,T.n])) h
    grind
  |operand d =>
   simp only at h;split at h
   ·cases h
   ·cases ts with
    |nil=>cases h
    |cons a z =>
     simp only at h;split at h
     ·split at h
      ·split at h
       ·cases h
       ·cases h;intro G;exact zeF
      grind
     ·split at h
      ·cases h;intro G;exact absurd G (by simp[T.n])
      ·split at h
       ·cases h
       ·split at h
        ·split at h
         ·cases h
         ·split at h
          ·cases h
          ·cases h;exact fun _=>⟨_,rfl⟩
        ·split at h
         ·split at h
          ·cases h
          ·cases h;intro G;exact zeF
         ·cases h;intro G;exact zeF
end Go.Xp
namespace Go.Sp
open Go.Xp
def WB{d:Nat}{ts:List Tok}{p:RS}(W:On p ts):∃t q,mX d p=some (t,q)/\eW p q t (expr p.e d ts):=by
 have M:ts.length<=p.l.length:=by rw[<-W.rest,qt];omega
 have m:rd p.e (20*ts.length+12) (.expr d) ts≠.error bJ:=xR (j:=.expr d) trivial (a8 _);have⟨t,q,o,b⟩:=(je _).expr d ts p W m;rw[AL (a8 _)]at b;exact⟨t,q,o _ (by grind[KF,fe]),b⟩
def Ei{d:Nat}{p:RS}(h:p.code≠0):mX d p=some (T.zero,p):=UR h (by simp[fe])
theorem Eh{p:RS}(h:p.code≠0){g d:Nat}(hg:2<=g):mS g (.block d) p=some (one 14 p.place [] [],p):=by
 obtain⟨g,rfl⟩:∃Q,g=Q+2:=⟨g-2,by omega⟩;rw[mS,qD h,iQ h aD];simp only[mB,h,false_and,if_false];rw[iQ h aD]
def MP{p:RS}(h:p.code≠0){g d:Nat}(hg:1<=g):mS g (.stmt d) p=some (one 12 p.place [] [T.zero],p):=by
 obtain⟨g,rfl⟩:∃Q,g=Q+1:=⟨g-1,by omega⟩;rw[mS,qD h];simp only[mg h];rw[ab aD,ab aD,ab aD,ab (fun x=>h x.1),Ei h]
 have j:¬(T.zero.n.aj=3/\T.zero.n.at_=p.place/\p.aJ 0=[61]):=fun x=>absurd x.1 aD
 simp only;rw[ab j,iQ h aD]
structure Zm(f:Nat):Prop where
 block:∀d ts p,On p ts->rs p.e f (.block d) ts≠.error bJ->∃t q,(∀g,KF f<=g->mS g (.block d) p=some (t,q))/\eW p q t (rs p.e f (.block d) ts)
 stmt:∀d ts p,On p ts->rs p.e f (.stmt d) ts≠.error bJ->∃t q,(∀g,KF f<=g->mS g (.stmt d) p=some (t,q))/\eW p q t (rs p.e f (.stmt d) ts)
 body:∀d acc ts p,On p ts->rs.body p.e f d acc ts≠.error bJ->∃t q,(∀g,KF f<=g->mB g d acc p=some (t,q))/\eW p (q.ba [125]) t (rs.body p.e f d acc ts)
def Ju{d:Nat}{ts:List Tok}{p:RS}(W:On p ts):(∃t q r,mX d p=some (t,q)/\expr p.e d ts=.ok (t,r)/\cS p q (.ok r))\/(∃t q x,mX d p=some (t,q)/\expr p.e d ts=.error x/\cS p q (.error x)):=by
 have⟨t,q,o,b⟩:=WB (d:=d) W
 cases i:expr p.e d ts with
 |error x=>rw[i]at b;exact .inr ⟨t,q,x,o,rfl,b⟩
 |ok y =>
  have⟨k,r⟩:=y;rw[i]at b;obtain⟨rfl,b⟩:=b
  grind
def xO{s:ah}{ts:List Tok}{p:RS}(W:On p ts)(G:s≠[]):(∃r,Go.Xp.ba p.e s ts=.ok r/\cS p (p.ba s) (.ok r))\/(∃x,Go.Xp.ba p.e s ts=.error x/\cS p (p.ba s) (.error x)):=by
 have h:=W.ba G
 cases i:Go.Xp.ba p.e s ts with
 |ok r=>grind
 |error x=>grind
def Sd{ts:List Tok}{p:RS}(W:On p ts):(∃r,Go.Xp.name p.e ts=.ok (p.name.1,r)/\cS p p.name.2 (.ok r))\/(∃x,Go.Xp.name p.e ts=.error x/\cS p p.name.2 (.error x)):=by
 rcases W.name with h|h
 ·cases i:Go.Xp.name p.e ts with
  |ok y =>
   have⟨s,r⟩:=y;rw[i]at h;obtain⟨rfl,h⟩:=h
   grind
  |error x=>rw[i]at h;exact .inr ⟨x,rfl,h⟩
 grind
def yK{d:Nat}{ts:List Tok}{p:RS}{b:ah}(W:On p ts)(j:b≠[]):∃t q,mX d p=some (t,q)/\((∃r z,expr p.e d ts=.ok (t,r)/\Go.Xp.ba p.e b r=.ok z/\cS p (q.ba b) (.ok z))\/(∃r x,expr p.e d ts=.ok (t,r)/\Go.Xp.ba p.e b r=.error x/\cS p (q.ba b) (.error x))\/(∃x,expr p.e d ts=.error x/\cS p (q.ba b) (.error x))):=by
 rcases Ju (d:=d) W with⟨t,q,r,o,c,G⟩|⟨t,q,x,o,c,G⟩
 ·refine⟨t,q,o,?_⟩
  rcases xO G.1 j with⟨z,C,i⟩|⟨x,C,i⟩
  ·rw[G.2.2]at C;exact .inl ⟨r,z,c,C,G.tr i⟩
  ·rw[G.2.2]at C;exact .inr (.inl ⟨r,x,c,C,G.tr i⟩)
 ·exact⟨t,q,o,.inr (.inr ⟨x,c,by rw[iQ G.err j];exact G⟩)⟩
theorem On.oh{ts:List Tok}{p:RS}(W:On p ts):p.oh=(match ts with|t::_=>decide (t.aj=2)|[]=>false):=by
 have h:=W.at 0
 grind[RS.oh]
section
variable{d:Nat}{ts:List Tok}{p:RS}
def D1{a b:ah}(W:On p ts)(ha:a≠[])(i:b≠[]):∃t q,mX d (p.ba a)=some (t,q)/\((∃r,inner p.e d a b ts=.ok (t,r)/\cS p (q.ba b) (.ok r))\/∃x,inner p.e d a b ts=.error x/\cS p (q.ba b) (.error x)):=by
 unfold Go.Xp.inner
 rcases xO W ha with⟨r,o,c⟩|⟨x,o,c⟩
 ·rw[o];have⟨t,q,G,C⟩:=yK (d:=d) (b:=b) c.1 i;rw[c.2.2]at C;refine⟨t,q,G,?_⟩;simp only
  rcases C with⟨r,z,R,O,S⟩|⟨r,x,R,O,S⟩|⟨x,R,S⟩
  ·rw[R];simp only;rw[O];exact .inl ⟨z,rfl,c.tr S⟩
  ·rw[R];simp only;rw[O];exact zbr
  ·rw[R];exact zbr
 ·rw[o];exact⟨T.zero,p.ba a,Ei c.err,.inr ⟨x,rfl,by rw[iQ c.err i];exact c⟩⟩
def ER(W:On p ts):∃t q,mX d (p.name.2.ba [61])=some (t,q)/\((∃r,lZ p.e d ts=.ok ((p.name.1,t),r)/\cS p (q.ba [59]) (.ok r))\/∃x,lZ p.e d ts=.error x/\cS p (q.ba [59]) (.error x)):=by
 unfold Go.Xp.lZ
 rcases Sd W with⟨r,o,c⟩|⟨x,o,c⟩
 ·rw[o];have⟨t,q,G,C⟩:=D1 (d:=d) (a:=[61]) (b:=[59]) c.1 aD aD;rw[c.2.2]at C;refine⟨t,q,G,?_⟩;simp only
  rcases C with⟨r,R,S⟩|⟨x,R,S⟩
  ·rw[R];exact .inl ⟨r,rfl,c.tr S⟩
  ·rw[R];exact zbr
 ·rw[o];refine⟨T.zero,p.name.2,by rw[iQ c.err aD];exact Ei c.err,.inr ⟨x,rfl,by rw[iQ c.err aD];exact c⟩⟩
end
def js(f:Nat):Zm f:=by
 induction f with
 |zero=>exact⟨fun d z p _ h=>absurd zfx h,fun d z p _ h=>absurd zfx h,fun d S z p _ h=>absurd zfl h⟩
 |succ f C =>
  refine⟨fun d z p w h=>?_,fun d z p w h=>?_,fun d S z p w h=>?_⟩
  ·rw[rs]at h |-
   by_cases hd:d>60
   ·rw[ai hd]at h |-;have hf:=w.fail 9 p.place aD;refine⟨one 14 (p.fail 9 p.place).place [] [],p.fail 9 p.place,fun g j=>?_,by rw[<-w.place];exact hf⟩
    have hdf:p.aW d=p.fail 9 p.place:=by grind[RS.aW]
    have:=Eh (g:=g) (d:=d) hf.err zfy;obtain⟨g,rfl,j⟩:=up j;rw[mS]at this |-;rw[qD hf.err]at this
    grind
   ·rw[ab hd]at h |-
    have E:p.aW d=p:=by grind[RS.aW]
    rcases xO w (s:=[123]) aD with⟨r,B,i⟩|⟨x,B,i⟩
    ·rw[B]at h |-;simp only at h |-;rw[<-i.2.2]at h |-
     have M:rs.body (p.ba [123]).e f (d+1) [] r≠.error bJ:=fun W=>h (by rw[W])
     have⟨l,q,m,u⟩:=C.body (d+1) [] r (p.ba [123]) i.1 M
     have J:place (p.ba [123]).e z=p.place:=by rw[i.2.2,w.place]
     refine⟨one 14 p.place [] l,q.ba [125],fun g j=>?_,?_⟩
     ·obtain⟨g,rfl,j⟩:=up j
      grind[mS]
     ·cases Y:rs.body (p.ba [123]).e f (d+1) [] r with
      |error x=>rw[Y]at u;exact i.tr (y:=.error x) u
      |ok y=>have⟨l',r'⟩:=y;rw[Y]at u;obtain⟨rfl,u⟩:=u;rw[J];exact⟨rfl,i.tr u⟩
    ·rw[B]at h |-;refine⟨one 14 p.place [] [],p.ba [123],fun g j=>?_,i⟩;obtain⟨g,rfl,j⟩:=up j;rw[mS,E];obtain⟨g,rfl⟩:∃g',g=g'+1:=⟨g-1,by omega⟩;simp only[mB,i.err,false_and,if_false];rw[iQ i.err aD]
  ·rw[rs]at h |-
   by_cases hd:d>60
   ·rw[ai hd]at h |-;have hf:=w.fail 9 p.place aD
    have hdf:p.aW d=p.fail 9 p.place:=by grind[RS.aW]
    refine⟨one 12 (p.fail 9 p.place).place [] [T.zero],p.fail 9 p.place,fun g j=>?_,by rw[<-w.place];exact hf⟩;have:=MP (g:=g) (d:=d) hf.err zfy;obtain⟨g,rfl,j⟩:=up j;rw[mS]at this |-;rw[qD hf.err]at this
    grind
   ·rw[ab hd]at h |-
    have E:p.aW d=p:=by grind[RS.aW]
    have ym:p.aJ 0=aJ z 0:=w.aJ 0;have aaM:p.aJ 1=aJ z 1:=w.aJ 1;have J:=w.place;simp only at h |-
    by_cases hv:aJ z 0=lS
    ·rw[ai hv];have⟨tv,Q,_⟩:=eA aD hv;have o:=w;rw[Q]at o
     have o:=o.next
     rw[show p.e=p.next.e from rfl]
     rcases ER (d:=d+1) o.1 with⟨t,q,B,⟨r,i,m⟩|⟨x,i,m⟩⟩
     ·rw[i];refine⟨one 13 p.place p.next.name.1 [t],q.ba [59],fun g j=>?_,by rw[J];rfl,o.tr m⟩;obtain⟨g,rfl,j⟩:=up j;rw[mS,E]
      grind
     ·rw[i];refine⟨one 13 p.place p.next.name.1 [t],q.ba [59],fun g j=>?_,o.tr (y:=.error x) m⟩;obtain⟨g,rfl,j⟩:=up j;rw[mS,E]
      grind
    rw[ab hv]at h |-
    by_cases X:aJ z 0=gk\/aJ z 0=gD
    ·rw[ai X]at h |-
     obtain⟨tv,Q,hk3,hts⟩:∃t,z=t::z.tail/\t.aj=3/\t.s=aJ z 0:=by
      rcases X with X|X
      ·have⟨t,B,i,m⟩:=eA aD X;grind
      ·have⟨t,B,i,m⟩:=eA aD X;grind
     have o:=w;rw[Q]at o
     have o:=o.next
     have Ln:p.ck=if aJ z 0=gk then 9 else 10:=by grind[RS.ck]
     have R:∀(t:T)(q:RS),(∀g,KF f<=g->mS (g+1) (.cond p.place d) p=some (t,q))->∀g,KF (f+1)<=g->mS g (.stmt d) p=some (t,q):=by
      intro t q hk g j;obtain⟨g,rfl,j⟩:=up j;rw[mS,E];rw[ab ze2,ai ze2];obtain⟨g,rfl⟩:∃g',g=g'+1:=⟨g-1,by omega⟩
      grind
     rcases D1 (d:=d+1) (a:=[40]) (b:=[41]) o.1 aD aD with⟨c,q,B,⟨r,i,m⟩|⟨x,i,m⟩⟩
     ·rw[show p.next.e=p.e from rfl]at i;rw[i]at h |-;simp only at h |-;have m:=o.tr m
      have M:rs p.e f (.block (d+1)) r≠.error bJ:=fun W=>h (by rw[W])
      rw[<-m.2.2]at M;have⟨b,q2,u,A⟩:=C.block (d+1) r (q.ba [41]) m.1 M;rw[m.2.2]at A
      cases Y:rs p.e f (.block (d+1)) r with
      |error x =>
       rw[Y]at A;refine⟨one p.ck p.place [] [c,b],q2,R _ _ fun g j=>?_,m.tr (y:=.error x) A⟩;rw[mS,B];simp only;rw[u g j];simp only;rw[ab (by rw[mg (cS.err A)];simp[RS.ck,ah,iH])]
      |ok y =>
       have⟨b',r2⟩:=y;rw[Y]at A h;obtain⟨rfl,A⟩:=A;simp only at h |-;have A:=m.tr A;have DV:q2.aJ 0=aJ r2 0:=A.1.aJ 0
       by_cases hi:aJ z 0=gk
       ·rw[ai hi]at h Ln |-
        by_cases wx:aJ r2 0=iH
        ·rw[ai wx]at h |-;have⟨te,LA,_⟩:=eA aD wx;have F:=A.1;rw[LA]at F
         have F:=A.tr F.next
         have M:rs p.e f (.block (d+1)) r2.tail≠.error bJ:=fun W=>h (by rw[W])
         rw[<-F.2.2]at M
         have⟨b2,q3,h6,Z⟩:=C.block (d+1) r2.tail q2.next F.1 M
         rw[F.2.2]at Z;refine⟨one p.ck p.place [] [c,b,b2],q3,R _ _ fun g j=>?_,?_⟩
         ·grind[mS,RS.place,one,RS.ck]
         ·cases wU:rs p.e f (.block (d+1)) r2.tail with
          |error x=>rw[wU]at Z;exact F.tr (y:=.error x) Z
          |ok y=>have⟨b3,r3⟩:=y;rw[wU]at Z;obtain⟨rfl,Z⟩:=Z;exact⟨by grind,F.tr Z⟩
        ·rw[ab wx];refine⟨one p.ck p.place [] [c,b],q2,R _ _ fun g j=>?_,by grind,A⟩
         grind[mS,RS.place,one,RS.ck]
       ·rw[ab hi]at Ln |-;refine⟨one p.ck p.place [] [c,b],q2,R _ _ fun g j=>?_,by grind,A⟩
        grind[mS,RS.place,one,RS.ck]
     ·rw[show p.next.e=p.e from rfl]at i;rw[i]at h |-;have m:=o.tr (y:=.error x) m;refine⟨one p.ck p.place [] [c,one 14 (q.ba [41]).place [] []],q.ba [41],R _ _ fun g j=>?_,m⟩;rw[mS,B];simp only;rw[Eh m.err zfy];simp only;rw[ab (by rw[mg m.err];simp[RS.ck,ah,iH])]
    rw[ab X]at h |-
    have hcp:¬(p.aJ 0=gk\/p.aJ 0=gD):=by grind
    by_cases hr:aJ z 0=gP
    ·rw[ai hr];have⟨tv,Q,_⟩:=eA aD hr;have o:=w;rw[Q]at o
     have o:=o.next
     have⟨t,q,B,i⟩:=yK (d:=d+1) (b:=[59]) o.1 aD;rw[show p.next.e=p.e from rfl]at i;refine⟨one 11 p.place [] [t],q.ba [59],fun g j=>?_,?_⟩
     ·obtain⟨g,rfl,j⟩:=up j
      exact zdX
     ·rcases i with⟨r,r',i,m,u⟩|⟨r,x,i,m,u⟩|⟨x,i,u⟩
      ·rw[i];simp only;rw[m];exact⟨by rw[J],o.tr u⟩
      ·rw[i];simp only;rw[m];exact zeC
      ·rw[i];exact zeC
    rw[ab hr]at h |-
    have hrp:¬p.aJ 0=gP:=by grind
    have hvp:¬p.aJ 0=lS:=by grind
    have XD:=w.oh
    cases z with
    |nil =>
     have O:¬(p.code=0/\p.oh=true/\p.aJ 1=[61]):=fun hx=>by grind
     rcases Ju (d:=d+1) w with⟨t,q,r,B,i,m⟩|⟨t,q,x,B,i,m⟩
     ·exact zeM
     ·have G:¬(t.n.aj=3/\t.n.at_=p.place/\q.aJ 0=[61]):=by rw[mg m.err];simp
      refine⟨one 12 p.place [] [t],q.ba [59],fun g j=>?_,by unfold simple;rw[i,iQ m.err aD];exact m⟩;obtain⟨g,rfl,j⟩:=up j
      exact zdX
    |cons a r0 =>
     simp only[simple]at h |-;simp only at XD
     by_cases N:a.aj=2/\aJ (a::r0) 1=[61]
     ·rw[ai N];have O:p.code=0/\p.oh=true/\p.aJ 1=[61]:=⟨w.code,by grind,by grind⟩
      rcases ER (d:=d+1) w with⟨t,q,B,⟨r,i,m⟩|⟨x,i,m⟩⟩
      ·rw[i];refine⟨one 7 p.place p.name.1 [t],q.ba [59],fun g j=>?_,by rw[J];rfl,m⟩;obtain⟨g,rfl,j⟩:=up j;rw[mS,E]
       grind
      ·rw[i];refine⟨one 7 p.place p.name.1 [t],q.ba [59],fun g j=>?_,m⟩;obtain⟨g,rfl,j⟩:=up j;rw[mS,E]
       grind
     ·rw[ab N]
      have O:¬(p.code=0/\p.oh=true/\p.aJ 1=[61]):=fun hx=>N ⟨by grind,by grind⟩
      have YP:p.place=a.at_:=J
      rcases Ju (d:=d+1) w with⟨t,q,r,B,i,m⟩|⟨t,q,x,B,i,m⟩
      ·rw[i];simp only;have DV:q.aJ 0=aJ r 0:=m.1.aJ 0
       by_cases H:t.n.aj=3/\t.n.at_=a.at_/\aJ r 0=[61]
       ·rw[ai H]
        have G:t.n.aj=3/\t.n.at_=p.place/\q.aJ 0=[61]:=by grind
        have⟨te,LA,_⟩:=eA aD H.2.2;have o:=m.1;rw[LA]at o
        have o:=m.tr o.next
        obtain⟨ix,hix⟩:=Mw _ _ _ _ _ _ (fun k d out hj=>by cases hj) i H.1
        have Hk:∀ts',Go.Xp.inner p.e (d+1) [61] [59] ts'=Go.Xp.inner p.e (d+1) [61] [59] ts':=fun _=>rfl
        have Qo:Go.Xp.ba p.e [61] r=.ok r.tail:=by grind[ba]
        have⟨v,q2,u,A⟩:=yK (d:=d+1) (b:=[59]) o.1 aD;rw[o.2.2]at A;refine⟨one 8 p.place t.n.s [ix,v],q2.ba [59],fun g j=>?_,?_⟩
        ·obtain⟨g,rfl,j⟩:=up j;rw[mS,E]
         grind
        ·unfold Go.Xp.inner;rw[Qo];simp only
         rcases A with⟨r2,r',i,m,u⟩|⟨r2,x,i,m,u⟩|⟨x,i,u⟩
         ·rw[i];simp only;rw[m];exact⟨by grind,o.tr u⟩
         ·rw[i];simp only;rw[m];exact zeC
         ·rw[i];exact zeC
       ·rw[ab H]
        have G:¬(t.n.aj=3/\t.n.at_=p.place/\q.aJ 0=[61]):=by grind
        refine⟨one 12 p.place [] [t],q.ba [59],fun g j=>?_,?_⟩
        ·obtain⟨g,rfl,j⟩:=up j
         exact zdX
        ·rcases xO m.1 (s:=[59]) aD with⟨r',u,A⟩|⟨x,u,A⟩
         ·rw[m.2.2]at u;rw[u];exact⟨by rw[YP],m.tr A⟩
         ·rw[m.2.2]at u;rw[u];exact m.tr (y:=.error x) A
      ·rw[i]
       have G:¬(t.n.aj=3/\t.n.at_=p.place/\q.aJ 0=[61]):=by rw[mg m.err];simp
       refine⟨one 12 p.place [] [t],q.ba [59],fun g j=>?_,by rw[iQ m.err aD];exact m⟩;obtain⟨g,rfl,j⟩:=up j
       exact zdX
  ·rw[rs.body]at h |-;have ym:p.aJ 0=aJ z 0:=w.aJ 0
   by_cases M:aJ z 0=[125]
   ·rw[ai M];have hm:=w.ba (s:=[125]) aD;unfold Go.Xp.ba at hm;rw[ai M]at hm;refine⟨S,p,fun g j=>?_,rfl,hm⟩;obtain⟨g,rfl,j⟩:=up j
    grind[mB]
   ·rw[ab M]at h |-
    have hs:rs p.e f (.stmt d) z≠.error bJ:=fun W=>h (by rw[W])
    have⟨a,q,B,i⟩:=C.stmt d z p w hs;have X:p.code=0/\¬p.aJ 0=[125]:=⟨w.code,by grind⟩
    cases Y:rs p.e f (.stmt d) z with
    |error x =>
     rw[Y]at i h;refine⟨S++[a],q,fun g j=>?_,by rw[iQ (cS.err i) aD];exact i⟩;obtain⟨g,rfl,j⟩:=up j;rw[mB,ai X,B g aO];simp only;obtain⟨g,rfl⟩:∃g',g=g'+1:=⟨g-1,by omega⟩;rw[mB,ab (fun W=>cS.err i W.1)]
    |ok y =>
     have⟨a',r⟩:=y;rw[Y]at i h;obtain⟨rfl,i⟩:=i;simp only at h |-;rw[<-i.2.2]at h |-;have⟨l,q3,m,u⟩:=C.body d (S++[a]) r q i.1 h;refine⟨l,q3,fun g j=>?_,eW.tr i u⟩;obtain⟨g,rfl,j⟩:=up j
     grind[mB]
end Go.Sp
namespace Go.Im
open Go.Xp Go.Sp
def tok(p:RS)(k:Nat):Tok:=match p.l[p.i+k]? with|some t=>t|none=>⟨0,0,[],p.e⟩
def is(p:RS)(k:Nat)(s:ah):Bool:=(tok p k).aj==3&&(tok p k).s==s
def ly(p:RS):RS:=p.fail 7 (tok p 0).at_
def want(p:RS)(s:ah):RS:=if p.code=0 then(if is p 0 s=true then p.next else ly p)else p
def cm(p:RS):RS:=if p.code=0 then(if(tok p 0).aj=2 then(if(tok p 0).s.length>12 then p.fail 8 (tok p 0).at_ else p.next)else ly p)else p
def cN(p:RS)(d:Nat):RS:=if d>60 then p.fail 9 (tok p 0).at_ else p
mutual
def iE:Nat->tJ->RS->Option (T × RS)
 |0,_,_=>none
 |f+1,.expr d,p=>if(cN p d).code=0 then iE f (.level 0 (d+1)) (cN p d)else some (T.zero,cN p d)
 |f+1,.level k d,p =>
  if k=9 then iE f (.operand d) p
  else match iE f (.level (k+1) d) p with
   |none=>none
   |some (out,p)=>iE f (.loop k d out) p
 |f+1,.loop k d out,p =>
  if p.code=0/\(tok p 0).aj=3/\(levels.getD k []).contains (tok p 0).s=true then
   match iE f (.level (k+1) d) p.next with
   |none=>none
   |some (b,q)=>iE f (.loop k d (one 6 (tok p 0).at_ (tok p 0).s [out,b])) q
  else some (out,p)
 |f+1,.operand d,p =>
  if(cN p d).code=0 then
   if is p 0 [45]=true\/is p 0 [33]=true\/is p 0 [126]=true then match iE f (.operand (d+1)) p.next with
    |none=>none
    |some (a,q)=>some (one 5 (tok p 0).at_ (tok p 0).s [a],q)
   else if(tok p 0).aj=1 then some (.mk ⟨1,(tok p 0).at_,(tok p 0).n,[],[]⟩ [],p.next)
   else if is p 0 [40]=true then match iE f (.expr (d+1)) p.next with
    |none=>none
    |some (a,q)=>some (a,want q [41])
   else if(cm p).code=0 then
    if is (cm p) 0 [91]=true then match iE f (.expr (d+1)) (cm p).next with
     |none=>none
     |some (a,q)=>some (one 3 (tok p 0).at_ (tok p 0).s [a],want q [93])
    else if is (cm p) 0 [40]=true then match iA f (d+1) [] (cm p).next with
     |none=>none
     |some (l,q)=>some (one 4 (tok p 0).at_ (tok p 0).s l,q)
    else some (one 2 (tok p 0).at_ (tok p 0).s [],cm p)
   else some (one 2 (tok p 0).at_ (tok p 0).s [],cm p)
  else some (T.zero,cN p d)
def iA:Nat->Nat->List T->RS->Option (List T × RS)
 |0,_,_,_=>none
 |f+1,d,W,p =>
  if p.code=0/\is p 0 [41]=false then match iE f (.expr d) (if W.length=0 then p else want p [44])with
   |none=>none
   |some (a,q)=>iA f d (W++[a]) q
  else some (W,want p [41])
end
section
variable{p q:RS}{ts r:List Tok}
theorem On.tok(h:On p ts)(k:Nat):tok p k=(match ts[k]? with|some t=>t|none=>⟨0,0,[],p.e⟩):=by unfold Im.tok;rw[h.at]
def On.tC(h:On p ts):(Im.tok p 0).at_=Go.Xp.place p.e ts:=by
 rw[On.tok h]
 cases ts with
 |nil=>rfl
 |cons t r=>rfl
theorem On.is(h:On p ts)(k:Nat){s:ah}(G:s≠[]):is p k s=decide (aJ ts k=s):=by
 unfold Im.is
 have e:aJ ts k=(if(Im.tok p k).aj=3 then(Im.tok p k).s else[]):=by
  unfold Go.Xp.aJ;rw[On.tok h]
  cases N:ts[k]? with
  |none=>simp
  |some t=>rfl
 grind
theorem iv(h:p.code≠0)(s:ah):want p s=p:=by grind[want]
theorem zq(h:p.code≠0)(d:Nat):cN p d=p:=by grind[td,cN]
theorem Ma(h:p.code≠0):cm p=p:=by grind[cm]
theorem On.ly(h:On p ts):cS p (ly p) (.error (7,place p.e ts)):=by
 unfold Im.ly;rw[On.tC h];exact h.fail 7 _ aD
theorem On.want(h:On p ts){s:ah}(G:s≠[]):cS p (want p s) (Go.Xp.ba p.e s ts):=by
 unfold Im.want Go.Xp.ba;rw[ai h.code,On.is h 0 G]
 by_cases o:aJ ts 0=s
 ·rw[ai ze2,ai o];have⟨t,M,_⟩:=eA G o;rw[M]at h
  exact h.next
 simp_all[ab,On.ly]
theorem mM(h:On p ts){s:ah}(G:s≠[]):(∃r,Go.Xp.ba p.e s ts=.ok r/\cS p (Im.want p s) (.ok r))\/(∃x,Go.Xp.ba p.e s ts=.error x/\cS p (Im.want p s) (.error x)):=by
 have h:=On.want h G
 grind[Go.Xp.ba]
def tl(h:On p ts):(∃r,Go.Xp.name p.e ts=.ok ((Im.tok p 0).s,r)/\cS p (Im.cm p) (.ok r))\/(∃x,Go.Xp.name p.e ts=.error x/\cS p (Im.cm p) (.error x)):=by
 have N:=On.tok h 0;have l:=On.ly h;unfold Im.cm;rw[ai h.code]
 cases ts with
 |nil =>
  simp only[List.getElem?_nil]at N;rw[N];exact .inr ⟨_,rfl,by rw[ab ze3];exact l⟩
 |cons t r =>
  simp only[getElem?_cons_zero]at N;rw[N];simp only[Go.Xp.name]
  by_cases b:t.aj=2
  ·rw[ai b,ai b]
   by_cases M:t.s.length>12
   ·rw[ai M,ai M];exact .inr ⟨_,rfl,h.fail 8 _ aD⟩
   ·rw[ab M,ab M];exact .inl ⟨r,rfl,h.next⟩
  ·rw[ab b,ab b];exact .inr ⟨_,rfl,l⟩
def DY(h:p.code≠0){g d:Nat}(hg:1<=g):iE g (.expr d) p=some (T.zero,p):=by
 obtain⟨g,rfl⟩:∃Q,g=Q+1:=⟨g-1,by omega⟩;rw[iE,zq h,ab h]
theorem LG(h:p.code≠0){g k d:Nat}{out:T}(hg:1<=g):iE g (.loop k d out) p=some (out,p):=by
 obtain⟨g,rfl⟩:∃Q,g=Q+1:=⟨g-1,by omega⟩
 grind[iE]
end
structure IE(f:Nat):Prop where
 expr:∀d ts p,On p ts->rd p.e f (.expr d) ts≠.error bJ->∃t q,(∀g,f+2<=g->iE g (.expr d) p=some (t,q))/\eW p q t (rd p.e f (.expr d) ts)
 level:∀k d ts p,k<=9->On p ts->rd p.e f (.level k d) ts≠.error bJ->∃t q,(∀g,f+2<=g->iE g (.level k d) p=some (t,q))/\eW p q t (rd p.e f (.level k d) ts)
 loop:∀k d out ts p,k<9->On p ts->rd p.e f (.loop k d out) ts≠.error bJ->∃t q,(∀g,f+2<=g->iE g (.loop k d out) p=some (t,q))/\eW p q t (rd p.e f (.loop k d out) ts)
 operand:∀d ts p,On p ts->rd p.e f (.operand d) ts≠.error bJ->∃t q,(∀g,f+2<=g->iE g (.operand d) p=some (t,q))/\eW p q t (rd p.e f (.operand d) ts)
 args:∀d acc ts p,On p ts->rd.args p.e f d acc ts≠.error bJ->∃t q,(∀g,f+2<=g->iA g d acc p=some (t,q))/\eW p q t (rd.args p.e f d acc ts)
def Nb{R:Type}{p q:RS}{r:List Tok}{s:ah}{t:R}(h:cS p q (.ok r))(G:s≠[]):eW q (want q s) t (match Go.Xp.ba p.e s r with|.error x=>.error x|.ok r=>.ok (t,r)):=by
 have j:=On.want h.1 G;rw[h.2.2]at j
 cases T:Go.Xp.ba p.e s r with
 |error x=>rw[T]at j;exact j
 |ok S=>rw[T]at j;exact⟨rfl,j⟩
def ie(f:Nat):IE f:=by
 induction f with
 |zero =>
  refine⟨fun d ts p _ h=>absurd ?_ h,fun k d ts p _ _ h=>absurd ?_ h,fun k d out ts p _ _ h=>absurd ?_ h,fun d ts p _ h=>absurd ?_ h,fun d m ts p _ h=>absurd ?_ h⟩<;>simp[rd,rd.args]
 |succ f C =>
  have F:f+2<f+1+2:=by omega
  refine⟨fun d ts p i h=>xo F ?_,fun k d ts p hk i h=>xo F ?_,fun k d out ts p hk i h=>xo F ?_,fun d ts p i h=>xo F ?_,fun d m ts p i h=>xo F ?_⟩
  ·rw[rd]at h |-
   by_cases hd:d>60
   ·rw[ai hd];have E:=i.fail 9 (tok p 0).at_ aD
    have A:cN p d=p.fail 9 (tok p 0).at_:=by grind[cN]
    exact zdD
   ·rw[ab hd]at h |-;have⟨t,q,S,h2⟩:=C.level 0 (d+1) ts p aO i h;exact⟨t,q,fun g c=>by grind[iE,cN,i.code],h2⟩
  ·rw[rd]at h |-
   by_cases h9:k=9
   ·rw[ai h9]at h |-;have⟨t,q,S,h2⟩:=C.operand d ts p i h;exact⟨t,q,fun g c=>by grind[iE],h2⟩
   ·rw[ab h9]at h |-
    refine eW.fT i.self (C.level (k+1) d ts p aO i) h (fun b q B e=>⟨b,fun g c=>?_⟩) fun b q r z v e=>?_
    ·rw[iE,ab h9,e g c];exact LG B aO
    ·erw[z]at h |-;simp only at h |-;rw[<-v.2.2]at h |-
     have⟨t,q',W,Z⟩:=C.loop k d b r q aO v.1 h;exact⟨t,q',fun g c=>by grind[iE],Z⟩
  ·cases ts with
   |nil =>
    rw[rd];refine⟨out,p,fun g c=>?_,rfl,i.self⟩;rw[iE,ab]
    grind[On.tok]
   |cons t r =>
    rw[rd]at h |-
    have G:tok p 0=t:=by grind[On.tok]
    by_cases M:t.aj=3/\t.s∈levels.getD k []
    ·rw[ai M]at h |-
     have n:p.code=0/\(tok p 0).aj=3/\(levels.getD k []).contains (tok p 0).s=true:=by rw[G];exact⟨i.code,M.1,by grind⟩
     refine eW.fT i.next (C.level (k+1) d r p.next aO i.next.1) h (fun b q B e=>⟨one 6 t.at_ t.s [out,b],fun g c=>?_⟩) fun b q H z v e=>?_
     ·rw[iE,ai n,e g c,G];exact LG B aO
     ·erw[z]at h |-;simp only at h |-;rw[<-v.2.2]at h |-
      have⟨t3,q3,W,Z⟩:=C.loop k d (one 6 t.at_ t.s [out,b]) H q hk v.1 h;exact⟨t3,q3,fun g c=>by grind[iE],Z⟩
    ·rw[ab M];exact⟨out,p,fun g c=>by grind[iE],rfl,i.self⟩
  ·rw[rd.eq_def]at h |-;simp only at h |-
   by_cases hd:d>60
   ·rw[ai hd];have E:=i.fail 9 (tok p 0).at_ aD
    have A:cN p d=p.fail 9 (tok p 0).at_:=by grind[cN]
    exact zdD
   ·rw[ab hd]at h |-
    have A:cN p d=p:=by grind[cN]
    have hi:∀s:ah,s≠[]->is p 0 s=decide (aJ ts 0=s):=fun s hs=>On.is i 0 hs
    cases ts with
    |nil =>
     have G:tok p 0=⟨0,0,[],p.e⟩:=by grind[On.tok]
     have o:∀s:ah,s≠[]->is p 0 s=false:=fun s hs=>by grind[is]
     have Q:cm p=p.fail 7 p.e:=by unfold cm;rw[ai i.code,G,ab ze3];grind[ly]
     have E:=i.fail 7 p.e aD;refine⟨one 2 p.e [] [],p.fail 7 p.e,fun g c=>?_,E⟩;rw[iE,A,ai i.code,o _ aD,o _ aD,o _ aD,ab aD,ab ze2,o _ aD,ab aD,Q,ab E.err,G]
    |cons t r =>
     simp only at h |-
     have G:tok p 0=t:=by grind[On.tok]
     have N:=i.next
     have j:=fun g=>iE.eq_def (g+1) (.operand d) p
     simp only[A,i.code,G,if_true]at j
     by_cases W:t.aj=3
     ·rw[ai W]at h |-
      have ym:aJ (t::r) 0=t.s:=by simp only[aJ,getElem?_cons_zero,dN,W,if_true]
      simp only[show ¬t.aj=1 by omega,if_false,hi _ (by decide:([45]:ah)≠[]),hi _ (by decide:([33]:ah)≠[]),hi _ (by decide:([126]:ah)≠[]),hi _ (by decide:([40]:ah)≠[]),ym,decide_eq_true_eq]at j
      by_cases hu:t.s=[45]\/t.s=[33]\/t.s=[126]
      ·rw[ai hu]at h |-;simp only[ai hu]at j
       exact eW.fT N (C.operand (d+1) r p.next N.1) h (fun b q B e=>⟨_,fun g c=>by rw[j,e g c]⟩) fun b q H z v e=>by erw[z];exact⟨_,_,fun g c=>by rw[j,e g c],rfl,v.1.self⟩
      ·rw[ab hu]at h |-;simp only[ab hu]at j
       by_cases w:t.s=[40]
       ·rw[ai w]at h |-;simp only[ai w]at j
        exact eW.fT N (C.expr (d+1) r p.next N.1) h (fun b q B e=>⟨b,fun g c=>by rw[j,e g c];simp only;rw[iv B]⟩) fun b q H z v e=>by erw[z];exact⟨_,_,fun g c=>by rw[j,e g c],Nb v aD⟩
       ·rw[ab w]at h |-
        have Q:cm p=p.fail 7 t.at_:=by unfold cm;rw[ai i.code,G,ab aO];grind[ly]
        have E:=i.fail 7 t.at_ aD;simp only[ab w,Q,ab E.err]at j;exact⟨_,_,fun g c=>j g,E⟩
     ·rw[ab W]at h |-
      have o:∀s:ah,s≠[]->is p 0 s=false:=fun s hs=>by grind[is]
      simp only[o _ (by decide:([45]:ah)≠[]),o _ (by decide:([33]:ah)≠[]),o _ (by decide:([126]:ah)≠[]),o _ (by decide:([40]:ah)≠[]),Bool.false_eq_true,or_self,if_false]at j
      by_cases S:t.aj=1
      ·rw[ai S];simp only[ai S]at j;exact⟨_,p.next,fun g c=>j g,rfl,N⟩
      ·rw[ab S]at h |-;simp only[ab S]at j
       rcases tl i with⟨H,X,u⟩|⟨x,X,u⟩
       ·rw[X]at h |-;simp only at h |-;simp only[u.1.code,if_true,On.is u.1 0 (by decide:([91]:ah)≠[]),On.is u.1 0 (by decide:([40]:ah)≠[]),decide_eq_true_eq]at j
        by_cases w:aJ H 0=[91]
        ·rw[ai w]at h |-;have⟨tb,R,_⟩:=eA aD w;have l:=u.1;rw[R]at l
         have l:=u.tr l.next
         rw[G]at h |-;simp only[ai w]at j
         have O:=C.expr (d+1) H.tail (cm p).next l.1
         rw[l.2.2]at O
         exact eW.fT l O h (fun b q B e=>⟨one 3 t.at_ t.s [b],fun g c=>by rw[j,e g c];simp only;rw[iv B]⟩) fun b q r2 z v e=>by erw[z];exact⟨_,_,fun g c=>by rw[j,e g c],Nb v aD⟩
        ·rw[ab w]at h |-;simp only[ab w]at j
         by_cases M:aJ H 0=[40]
         ·rw[ai M]at h |-;have⟨tb,R,_⟩:=eA aD M;have l:=u.1;rw[R]at l
          have l:=u.tr l.next
          rw[G]at h |-;simp only[ai M]at j
          have O:=C.args (d+1) [] H.tail (cm p).next l.1
          rw[l.2.2]at O
          exact eW.fT l O h (fun b q B e=>⟨one 4 t.at_ t.s b,fun g c=>by rw[j,e g c]⟩) fun b q r2 z v e=>by erw[z];exact⟨_,_,fun g c=>by rw[j,e g c],rfl,v.1.self⟩
         ·rw[ab M,G];simp only[ab M]at j;exact⟨_,_,fun g c=>j g,rfl,u⟩
       ·rw[X];simp only[ab u.err]at j;exact⟨_,_,fun g c=>j g,u⟩
  ·rw[rd.args]at h |-;have hi:is p 0 [41]=decide (aJ ts 0=[41]):=On.is i 0 aD
   by_cases w:aJ ts 0=[41]
   ·rw[ai w];have hm:=On.want i (s:=[41]) aD;unfold Go.Xp.ba at hm;rw[ai w]at hm;exact⟨m,want p [41],fun g c=>by grind[iA,want],rfl,hm⟩
   ·rw[ab w]at h |-;have n:p.code=0/\is p 0 [41]=false:=⟨i.code,by grind⟩;have key:∀(p':RS)(J:List Tok),cS p p' (.ok J)->(if m.length=0 then p else want p [44])=p'->(match rd p.e f (.expr d) J with|.error x=>.error x|.ok (a,ts)=>rd.args p.e f d (m++[a]) ts:Rd (List T))≠.error bJ ->
      ∃t q,(∀g,f+2<=g->iA (g+1) d m p=some (t,q))/\eW p q t (match rd p.e f (.expr d) J with|.error x=>.error x|.ok (a,ts)=>rd.args p.e f d (m++[a]) ts):=by
     intro p' J N Qk h;have O:=C.expr d J p' N.1;rw[N.2.2]at O
     refine eW.fT N O h (fun b q B e=>⟨m++[b],fun g c=>?_⟩) fun b q H z v e=>?_
     ·rw[iA,ai n,Qk,e g c];simp only;obtain⟨g,rfl⟩:∃g',g=g'+1:=⟨g-1,by omega⟩;rw[iA,ab (fun h0=>B h0.1),iv B]
     ·rw[z]at h |-;simp only at h |-;rw[<-v.2.2]at h |-;have⟨t3,q3,W,Z⟩:=C.args d (m++[b]) H q v.1 h;exact⟨t3,q3,fun g c=>by grind[iA],Z⟩
    cases m with
    |nil =>
     rw[ai rfl]at h |-;exact key p ts i.self rfl h
    |cons a0 Y =>
     rw[ab ze3]at h |-
     rcases mM i (s:=[44]) aD with⟨H,X,u⟩|⟨x,X,u⟩
     ·grind
     ·rw[X];refine⟨a0::Y++[T.zero],want p [44],fun g c=>?_,u⟩;rw[iA,ai n,ab ze3,DY u.err aO];simp only;obtain⟨g,rfl⟩:∃g',g=g'+1:=⟨g-1,by omega⟩;rw[iA,ab (fun h0=>u.err h0.1),iv u.err]
end Go.Im
namespace Go.Xp
abbrev tL(ts:List Tok):Prop:=ts.Pairwise fun a b=>a.at_<b.at_
section
variable{e:Int}{s:ah}{ts r:List Tok}
theorem vW(G:s≠[])(h:ba e s ts=.ok r):∃u,ts=u::r/\u.aj=3/\u.s=s:=by
 have⟨o,b⟩:=A5 h
 simp_all[Go.Sp.eA]
theorem Eo(h:name e ts=.ok (s,r)):∃u,ts=u::r/\u.aj=2/\u.s=s/\s.length<=12:=by
 cases ts with
 |nil=>cases h
 |cons t ts =>
  grind[name]
end
def tz{s:ah}{ts:List Tok}(G:s≠[])(h:aJ ts 0=s):∃u,ts=u::ts.tail/\u.aj=3/\u.s=s:=Go.Sp.eA G h
def IP(ts r:List Tok)(t:T):Prop:=∃a M,ts=a::(M++r)/\(tL ts->a.at_<=t.n.at_/\(t.n.aj=3->t.n.at_=a.at_->a.aj=2/\∃u w,a::M=u++[w]/\w.s=[93]))
def zk(ts r:List Tok)(out t:T):Prop:=(t=out/\r=ts)\/(t.n.aj=6/\∃M,ts=M++r/\∃u∈ts,t.n.at_=u.at_)
def SD(e:Int):∀f,(∀j ts t r,(∀k d out,j≠.loop k d out)->rd e f j ts=.ok (t,r)->IP ts r t)/\(∀k d out ts t r,rd e f (.loop k d out) ts=.ok (t,r)->zk ts r out t)/\(∀d v ts l r,rd.args e f d v ts=.ok (l,r)->∃c,ts=c++r/\c≠[]):=by
 intro f
 induction f with
 |zero=>exact⟨fun j ts t r _ h=>by simp[rd]at h,fun k d out ts t r h=>by simp[rd]at h,fun d v ts l r h=>by simp[rd.args]at h⟩
 |succ f ih =>
  have⟨B,Q,i3⟩:=ih;refine⟨fun j ts t r hj h=>?_,fun k d out ts t r h=>?_,fun d v ts l r h=>?_⟩
  ·rw[rd.eq_def]at h
   cases j with
   |expr d =>
    grind
   |level k d =>
    simp only at h;split at h
    ·grind
    ·split at h
     ·cases h
     ·rename_i out H i;have J:=B _ _ _ _ (fun k d out h=>by cases h) i;have W:=Q _ _ _ _ _ _ h
      rcases W with⟨rfl,rfl⟩|⟨M,o,rfl,u,F,C⟩
      ·exact J
      ·obtain⟨a,c,rfl,N⟩:=J;refine⟨a,c++o,by simp,fun A=>⟨?_,fun h6=>by omega⟩⟩
       simp_all[tL,List.pairwise_cons,Int.le_of_lt,List.mem_append_right]
   |loop k d out=>grind
   |operand d =>
    simp only at h;split at h
    ·cases h
    ·cases ts with
     |nil=>cases h
     |cons a R =>
      simp only at h;split at h
      ·rename_i M;split at h
       ·split at h
        ·cases h
        ·rename_i b G i;cases h;obtain⟨m,c,rfl,_⟩:=B _ _ _ _ (fun k d out h=>by cases h) i;exact⟨a,m::c,by simp,fun _=>⟨by simp[one,T.n],fun h=>by simp[one,T.n]at h⟩⟩
       ·split at h
        ·split at h
         ·cases h
         ·rename_i b G i;split at h
          ·cases h
          ·rename_i S E;cases h;obtain⟨m,c,rfl,N⟩:=B _ _ _ _ (fun k d out h=>by cases h) i;obtain⟨w,rfl,_,_⟩:=vW aD E;refine⟨a,m::(c++[w]),by simp,fun A=>?_⟩
           grind[List.pairwise_cons]
        ·cases h
      ·split at h
       ·cases h;simp[Int.le_refl,T.n,IP,Tok.at_,Tok.n]
       ·split at h
        ·cases h
        ·rename_i s G Y;have⟨u,F,X,_⟩:=Eo Y;cases F;split at h
         ·rename_i A;have⟨w,O,_,_⟩:=tz aD A;split at h
          ·cases h
          ·rename_i b S i;split at h
           ·cases h
           ·rename_i r4 E;cases h;obtain⟨m,c,C,N⟩:=B _ _ _ _ (fun k d out h=>by cases h) i;obtain⟨z,rfl,_,hz⟩:=vW aD E;refine⟨a,w::m::(c++[z]),by grind,fun _=>⟨Int.le_refl _,fun _ _=>⟨X,a::w::m::c,z,by simp,hz⟩⟩⟩
         ·split at h
          ·rename_i A;have⟨w,O,_,_⟩:=tz aD A;split at h
           ·cases h
           ·rename_i l S i;cases h;have⟨c,C,_⟩:=i3 _ _ _ _ _ i;exact⟨a,w::c,by grind,fun _=>⟨Int.le_refl _,fun h=>by simp[one,T.n]at h⟩⟩
          ·cases h;simp[Int.le_refl,T.n,IP,one,Tok.at_]
  ·cases ts with
   |nil=>grind[rd,zk]
   |cons a R =>
    rw[rd]at h;split at h
    ·split at h
     ·cases h
     ·rename_i b G i;obtain⟨m,c,rfl,_⟩:=B _ _ _ _ (fun k d out h=>by cases h) i
      rcases Q _ _ _ _ _ _ h with⟨rfl,rfl⟩|⟨M,o,rfl,u,F,C⟩
      ·exact .inr ⟨rfl,a::m::c,by simp,a,by simp,rfl⟩
      grind[zk]
    grind[zk]
  ·rw[rd.args]at h;split at h
   ·rename_i A;have⟨w,O,_,_⟩:=tz aD A;cases h;exact⟨[w],by grind,by simp⟩
   ·split at h
    ·cases h
    ·rename_i H Z;split at h
     ·cases h
     ·rename_i a R i;obtain⟨m,c,C,_⟩:=B _ _ _ _ (fun k d out h=>by cases h) i
      grind[vW]
def KO{e:Int}{d:Nat}{ts r:List Tok}{t:T}(h:expr e d ts=.ok (t,r)):IP ts r t:=(SD e _).1 _ _ _ _ (fun k d out h=>by cases h) h
end Go.Xp
namespace Go.Im
open Go.Xp Go.Sp
def ub(p:RS):ah:=match p.l[p.i-1]? with|some t=>t.s|none=>[]
def wa(p q:RS)(e:T):Prop:=e.n.aj=3/\q.code=0/\ub q=[93]/\e.n.at_=(tok p 0).at_/\(tok p 0).aj=2/\is q 0 [61]=true
instance(p q:RS)(e:T):Decidable (wa p q e):=by unfold wa;infer_instance
mutual
def iS:Nat->sP->RS->Option (T × RS)
 |0,_,_=>none
 |f+1,.block d,p =>
  if(cN p d).code=0 then match iB f (d+1) [] (want p [123])with
   |none=>none
   |some (l,q)=>some (one 14 (tok p 0).at_ [] l,want q [125])
  else some (one 14 (tok p 0).at_ [] [],cN p d)
 |f+1,.stmt d,p =>
  if(cN p d).code=0 then
   if is p 0 lS=true then match iE f (.expr (d+1)) (want (cm p.next) [61])with
    |none=>none
    |some (e,q)=>some (one 13 (tok p 0).at_ (tok p.next 0).s [e],want q [59])
   else if is p 0 gk=true\/is p 0 gD=true then match iE f (.expr (d+1)) (want p.next [40])with
    |none=>none
    |some (c,q)=>match iS f (.block (d+1)) (want q [41])with
     |none=>none
     |some (b,q) =>
      if is p 0 gk=true/\q.code=0/\is q 0 iH=true then match iS f (.block (d+1)) q.next with
       |none=>none
       |some (m,q)=>some (one 9 (tok p 0).at_ [] [c,b,m],q)
      else some (one (if is p 0 gk=true then 9 else 10) (tok p 0).at_ [] [c,b],q)
   else if is p 0 gP=true then match iE f (.expr (d+1)) p.next with
    |none=>none
    |some (e,q)=>some (one 11 (tok p 0).at_ [] [e],want q [59])
   else if(tok p 0).aj=2/\is p 1 [61]=true then match iE f (.expr (d+1)) (want (cm p) [61])with
    |none=>none
    |some (e,q)=>some (one 7 (tok p 0).at_ (tok p 0).s [e],want q [59])
   else match iE f (.expr (d+1)) p with
    |none=>none
    |some (e,q) =>
     if wa p q e then match e.aw,iE f (.expr (d+1)) (want q [61])with
      |a::_,some (v,q)=>some (one 8 (tok p 0).at_ e.n.s [a,v],want q [59])
      |_,_=>none
     else some (one 12 (tok p 0).at_ [] [e],want q [59])
  else some (T.zero,cN p d)
def iB:Nat->Nat->List T->RS->Option (List T × RS)
 |0,_,_,_=>none
 |f+1,d,W,p=>if p.code=0/\is p 0 [125]=false then match iS f (.stmt d) p with
   |none=>none
   |some (a,q)=>iB f d (W++[a]) q
  else some (W,p)
end
def KI(p:RS)(f:Nat):Nat:=f+20*p.l.length+40
section
variable{p q:RS}{ts r:List Tok}
theorem Je{d g:Nat}(W:On p ts)(hg:20*p.l.length+20<=g):∃t q,(∀g,20*p.l.length+20<=g->iE g (.expr d) p=some (t,q))/\((∃r,expr p.e d ts=.ok (t,r)/\cS p q (.ok r))\/(∃x,expr p.e d ts=.error x/\cS p q (.error x))):=by
 have M:ts.length<=p.l.length:=by rw[<-W.rest,qt];omega
 have m:rd p.e (20*ts.length+12) (.expr d) ts≠.error bJ:=xR (j:=.expr d) trivial (a8 _);have⟨t,q,o,b⟩:=(ie _).expr d ts p W m;rw[AL (a8 _)]at b;refine⟨t,q,fun g hg=>o g aO,?_⟩
 cases i:expr p.e d ts with
 |error x=>rw[i]at b;exact .inr ⟨x,rfl,b⟩
 |ok y=>have⟨k,r⟩:=y;rw[i]at b;obtain⟨rfl,b⟩:=b;grind
def Jd{d:Nat}{b:ah}(W:On p ts)(j:b≠[]):∃t q,(∀g,20*p.l.length+20<=g->iE g (.expr d) p=some (t,q))/\((∃r z,expr p.e d ts=.ok (t,r)/\Go.Xp.ba p.e b r=.ok z/\cS p (want q b) (.ok z))\/(∃r x,expr p.e d ts=.ok (t,r)/\Go.Xp.ba p.e b r=.error x/\cS p (want q b) (.error x))\/(∃x,expr p.e d ts=.error x/\cS p (want q b) (.error x))):=by
 obtain⟨t,q,o,c⟩:=Je (d:=d) W (a8 _);refine⟨t,q,o,?_⟩
 rcases c with⟨r,c,G⟩|⟨x,c,G⟩
 ·rcases mM G.1 j with⟨z,C,i⟩|⟨x,C,i⟩
  ·rw[G.2.2]at C;exact .inl ⟨r,z,c,C,G.tr i⟩
  ·rw[G.2.2]at C;exact .inr (.inl ⟨r,x,c,C,G.tr i⟩)
 ·exact .inr (.inr ⟨x,c,by rw[iv G.err];exact G⟩)
def LF{d:Nat}{a b:ah}(W:On p ts)(ha:a≠[])(i:b≠[]):∃t q,(∀g,20*p.l.length+20<=g->iE g (.expr d) (want p a)=some (t,q))/\((∃r,inner p.e d a b ts=.ok (t,r)/\cS p (want q b) (.ok r))\/∃x,inner p.e d a b ts=.error x/\cS p (want q b) (.error x)):=by
 unfold Go.Xp.inner
 rcases mM W ha with⟨r,o,c⟩|⟨x,o,c⟩
 ·rw[o];have⟨t,q,G,C⟩:=Jd (d:=d) (b:=b) c.1 i;rw[c.2.2]at C;rw[c.2.1]at G;refine⟨t,q,G,?_⟩;simp only
  rcases C with⟨r,z,R,O,S⟩|⟨r,x,R,O,S⟩|⟨x,R,S⟩
  ·rw[R];simp only;rw[O];exact .inl ⟨z,rfl,c.tr S⟩
  ·rw[R];simp only;rw[O];exact zbr
  ·rw[R];exact zbr
 ·rw[o];exact⟨T.zero,want p a,fun g X=>DY c.err aO,.inr ⟨x,rfl,by rw[iv c.err];exact c⟩⟩
def LK{d:Nat}(W:On p ts):∃t q,(∀g,20*p.l.length+20<=g->iE g (.expr d) (want (cm p) [61])=some (t,q))/\((∃r,lZ p.e d ts=.ok (((tok p 0).s,t),r)/\cS p (want q [59]) (.ok r))\/∃x,lZ p.e d ts=.error x/\cS p (want q [59]) (.error x)):=by
 unfold Go.Xp.lZ
 rcases tl W with⟨r,o,c⟩|⟨x,o,c⟩
 ·rw[o];have⟨t,q,G,C⟩:=LF (d:=d) (a:=[61]) (b:=[59]) c.1 aD aD;rw[c.2.2]at C;rw[c.2.1]at G;refine⟨t,q,G,?_⟩;simp only
  rcases C with⟨r,R,S⟩|⟨x,R,S⟩
  ·rw[R];exact .inl ⟨r,rfl,c.tr S⟩
  ·rw[R];exact zbr
 ·rw[o];refine⟨T.zero,cm p,fun g X=>by rw[iv c.err];exact DY c.err aO,.inr ⟨x,rfl,by rw[iv c.err];exact c⟩⟩
def Oo(h:p.code≠0){g d:Nat}(hg:1<=g):iS g (.block d) p=some (one 14 (tok p 0).at_ [] [],p):=by
 obtain⟨g,rfl⟩:∃Q,g=Q+1:=⟨g-1,by omega⟩;rw[iS,zq h,ab h]
theorem On.srt(h:On p ts)(G:tL p.l):tL ts:=by rw[<-h.rest];grind
theorem On.last(h:On p ts){M r:List Tok}{w:Tok}(J:cS p q (.ok r))(Q:ts=(M++[w])++r):ub q=w.s:=by
 have o:p.l=p.l.take p.i++(M++w::r):=by
  have:=take_append_drop p.i p.l;rw[h.rest,Q]at this
  grind
 have v:=congrArg List.length J.1.rest;have O:=congrArg List.length o;have N:=J.1.le;have c:=h.le;rw[J.2.1]at v N;simp only[qt,bp,length_cons,iC]at v O;unfold ub;rw[J.2.1,o,hO ze2,hO ze2]
 grind
end
structure Zl(f:Nat):Prop where
 block:∀d ts p,On p ts->tL p.l->rs p.e f (.block d) ts≠.error bJ->∃t q,(∀g,KI p f<=g->iS g (.block d) p=some (t,q))/\eW p q t (rs p.e f (.block d) ts)
 stmt:∀d ts p,On p ts->tL p.l->rs p.e f (.stmt d) ts≠.error bJ->∃t q,(∀g,KI p f<=g->iS g (.stmt d) p=some (t,q))/\eW p q t (rs p.e f (.stmt d) ts)
 body:∀d acc ts p,On p ts->tL p.l->rs.body p.e f d acc ts≠.error bJ->∃t q,(∀g,KI p f<=g->iB g d acc p=some (t,q))/\eW p (want q [125]) t (rs.body p.e f d acc ts)
def pg{p:RS}{f g:Nat}(h:KI p (f+1)<=g):∃Q,g=Q+1/\KI p f<=Q/\20*p.l.length+20<=Q:=⟨g-1,by grind[KI],by grind[KI],by grind[KI]⟩
def CO{p q:RS}(h:q.l=p.l)(f:Nat):KI q f=KI p f:=by grind[KI]
def is_(f:Nat):Zl f:=by
 induction f with
 |zero=>exact⟨fun d ts p _ _ h=>absurd zfx h,fun d ts p _ _ h=>absurd zfx h,fun d acc ts p _ _ h=>absurd zfl h⟩
 |succ f C =>
  refine⟨fun d ts p A hs h=>?_,fun d ts p A hs h=>?_,fun d acc ts p A hs h=>?_⟩
  ·rw[rs]at h |-;have S:=On.tC A
   by_cases hd:d>60
   ·rw[ai hd]at h |-;have hf:=A.fail 9 (tok p 0).at_ aD;refine⟨one 14 (tok p 0).at_ [] [],p.fail 9 (tok p 0).at_,fun g z=>?_,by rw[<-S];exact hf⟩;obtain⟨g,rfl,o,j⟩:=pg z
    have u:cN p d=p.fail 9 (tok p 0).at_:=by grind[cN]
    rw[iS,u,ab hf.err]
   ·rw[ab hd]at h |-
    have u:cN p d=p:=by grind[cN]
    rcases mM A (s:=[123]) aD with⟨r,H,i⟩|⟨x,H,i⟩
    ·rw[H]at h |-;simp only at h |-
     have X:rs.body p.e f (d+1) [] r≠.error bJ:=fun M=>h (by rw[M])
     rw[<-i.2.2]at X;obtain⟨l,q,m,E⟩:=C.body (d+1) [] r (want p [123]) i.1 (by rw[i.2.1];exact hs) X;rw[i.2.2]at E;rw[CO i.2.1]at m;refine⟨one 14 (tok p 0).at_ [] l,want q [125],fun g z=>?_,?_⟩
     ·obtain⟨g,rfl,o,j⟩:=pg z;rw[iS,u,ai A.code,m g aO]
     ·cases he:rs.body p.e f (d+1) [] r with
      |error x=>rw[he]at E;exact i.tr (y:=.error x) E
      |ok y=>have⟨l',r'⟩:=y;rw[he]at E;obtain⟨rfl,E⟩:=E;rw[S];exact⟨rfl,i.tr E⟩
    ·rw[H]at h |-;refine⟨one 14 (tok p 0).at_ [] [],want p [123],fun g z=>?_,i⟩;obtain⟨g,rfl,o,j⟩:=pg z;rw[iS,u,ai A.code];obtain⟨g,rfl⟩:∃g',g=g'+1:=⟨g-1,by omega⟩;rw[iB,ab (fun M=>i.err M.1)];simp only;rw[iv i.err]
  ·rw[rs]at h |-;have S:=On.tC A
   by_cases hd:d>60
   ·rw[ai hd]at h |-;have hf:=A.fail 9 (tok p 0).at_ aD;refine⟨T.zero,p.fail 9 (tok p 0).at_,fun g z=>?_,by rw[<-S];exact hf⟩;obtain⟨g,rfl,o,j⟩:=pg z
    have u:cN p d=p.fail 9 (tok p 0).at_:=by grind[cN]
    rw[iS,u,ab hf.err]
   ·rw[ab hd]at h |-
    have u:cN p d=p:=by grind[cN]
    have hi:∀s:ah,s≠[]->is p 0 s=decide (aJ ts 0=s):=fun s hs=>On.is A 0 hs
    have hi1:is p 1 [61]=decide (aJ ts 1=[61]):=On.is A 1 aD;simp only at h |-
    by_cases hv:aJ ts 0=lS
    ·rw[ai hv]
     have F:is p 0 lS=true:=by grind[is,lS]
     have⟨tv,Z,_⟩:=eA aD hv;have G:=A;rw[Z]at G
     have G:=G.next
     rw[show p.e=p.next.e from rfl];have⟨t,q,H,i⟩:=LK (d:=d+1) G.1
     rcases i with⟨r,i,m⟩|⟨x,i,m⟩
     ·rw[i];refine⟨one 13 (tok p 0).at_ (tok p.next 0).s [t],want q [59],fun g z=>?_,by rw[S];rfl,G.tr m⟩;exact zeG
     ·rw[i];refine⟨one 13 (tok p 0).at_ (tok p.next 0).s [t],want q [59],fun g z=>?_,G.tr (y:=.error x) m⟩;exact zeG
    rw[ab hv]at h |-
    have F:¬is p 0 lS=true:=by grind[is,lS]
    by_cases hc:aJ ts 0=gk\/aJ ts 0=gD
    ·rw[ai hc]at h |-
     have J:is p 0 gk=true\/is p 0 gD=true:=by grind[is,gk,gD]
     obtain⟨tv,Z⟩:∃t,ts=t::ts.tail:=by
      rcases hc with hc|hc
      ·have⟨t,H,_⟩:=eA aD hc;grind
      ·have⟨t,H,_⟩:=eA aD hc;grind
     have G:=A;rw[Z]at G
     have G:=G.next
     have Ln:(if is p 0 gk=true then(9:Int)else 10)=if aJ ts 0=gk then 9 else 10:=by grind[is]
     have⟨c,q,H,i⟩:=LF (d:=d+1) (a:=[40]) (b:=[41]) G.1 aD aD
     rcases i with⟨r,i,m⟩|⟨x,i,m⟩
     ·rw[show p.next.e=p.e from rfl]at i;rw[i]at h |-;simp only at h |-;have m:=G.tr m
      have X:rs p.e f (.block (d+1)) r≠.error bJ:=fun M=>h (by rw[M])
      rw[<-m.2.2]at X;obtain⟨b,q2,E,O⟩:=C.block (d+1) r (want q [41]) m.1 (by rw[m.2.1];exact hs) X;rw[m.2.2]at O;rw[CO m.2.1]at E
      cases he:rs p.e f (.block (d+1)) r with
      |error x =>
       rw[he]at O;refine⟨one (if is p 0 gk=true then 9 else 10) (tok p 0).at_ [] [c,b],q2,fun g z=>?_,m.tr (y:=.error x) O⟩;obtain⟨g,rfl,o,j⟩:=pg z;rw[iS,u,ai A.code,ab F,ai J,H g j];simp only;rw[E g o];simp only;rw[ab (fun M=>cS.err O M.2.1)]
      |ok y =>
       have⟨b',r2⟩:=y;rw[he]at O h;obtain⟨rfl,O⟩:=O;simp only at h |-;have O:=m.tr O;have DV:is q2 0 iH=decide (aJ r2 0=iH):=On.is O.1 0 aD
       by_cases Qk:aJ ts 0=gk
       ·rw[ai Qk]at h Ln |-
        have Ub:is p 0 gk=true:=by grind
        by_cases wx:aJ r2 0=iH
        ·rw[ai wx]at h |-;have⟨te,LA,_⟩:=eA aD wx;have Q:=O.1;rw[LA]at Q
         have Q:=O.tr Q.next
         have X:rs p.e f (.block (d+1)) r2.tail≠.error bJ:=fun M=>h (by rw[M])
         rw[<-Q.2.2]at X
         obtain⟨b2,q3,h6,h7⟩:=C.block (d+1) r2.tail q2.next Q.1 (by rw[Q.2.1];exact hs) X
         rw[Q.2.2]at h7;rw[CO Q.2.1]at h6;refine⟨one 9 (tok p 0).at_ [] [c,b,b2],q3,fun g z=>?_,?_⟩
         ·obtain⟨g,rfl,o,j⟩:=pg z;rw[iS,u,ai A.code,ab F,ai J,H g j];simp only;rw[E g o];simp only;rw[ai ⟨Ub,O.1.code,by grind⟩,h6 g o]
         ·cases wU:rs p.e f (.block (d+1)) r2.tail with
          |error x=>rw[wU]at h7;exact Q.tr (y:=.error x) h7
          |ok y=>have⟨b3,r3⟩:=y;rw[wU]at h7;obtain⟨rfl,h7⟩:=h7;exact⟨by rw[S],Q.tr h7⟩
        ·rw[ab wx];exact zbv
       ·rw[ab Qk]at Ln |-
        have Ub:¬is p 0 gk=true:=by grind
        exact zbv
     ·rw[show p.next.e=p.e from rfl]at i;rw[i]at h |-;have m:=G.tr (y:=.error x) m;refine⟨one (if is p 0 gk=true then 9 else 10) (tok p 0).at_ [] [c,one 14 (tok (want q [41]) 0).at_ [] []],want q [41],fun g z=>?_,m⟩;obtain⟨g,rfl,o,j⟩:=pg z;rw[iS,u,ai A.code,ab F,ai J,H g j];simp only;rw[Oo m.err aO];simp only;rw[ab (fun M=>m.err M.2.1)]
    rw[ab hc]at h |-
    have J:¬(is p 0 gk=true\/is p 0 gD=true):=by grind[is,gk,gD]
    by_cases hr:aJ ts 0=gP
    ·rw[ai hr]
     have R:is p 0 gP=true:=by grind[is,gP]
     have⟨tv,Z,_⟩:=eA aD hr;have G:=A;rw[Z]at G
     have G:=G.next
     have⟨t,q,H,i⟩:=Jd (d:=d+1) (b:=[59]) G.1 aD;rw[show p.next.e=p.e from rfl]at i;refine⟨one 11 (tok p 0).at_ [] [t],want q [59],fun g z=>?_,?_⟩
     ·obtain⟨g,rfl,o,j⟩:=pg z;rw[iS,u,ai A.code,ab F,ab J,ai R,H g j]
     ·rcases i with⟨r,r',i,m,E⟩|⟨r,x,i,m,E⟩|⟨x,i,E⟩
      ·rw[i];simp only;rw[m];exact⟨by rw[S],G.tr E⟩
      ·rw[i];simp only;rw[m];exact zeD
      ·rw[i];exact zeD
    rw[ab hr]at h |-
    have R:¬is p 0 gP=true:=by grind[is,gP]
    cases ts with
    |nil =>
     have ht:tok p 0=⟨0,0,[],p.e⟩:=by grind[On.tok]
     have B:¬((tok p 0).aj=2/\is p 1 [61]=true):=fun hx=>by grind
     obtain⟨t,q,H,i⟩:=Je (d:=d+1) A (a8 _)
     rcases i with⟨r,i,m⟩|⟨x,i,m⟩
     ·exact zeM
     ·have W:¬wa p q t:=fun M=>m.err M.2.1
      refine⟨one 12 (tok p 0).at_ [] [t],want q [59],fun g z=>?_,by unfold simple;rw[i,iv m.err];exact m⟩;exact za1
    |cons a r0 =>
     simp only[simple]at h |-
     have ht:tok p 0=a:=by grind[On.tok]
     by_cases Y:a.aj=2/\aJ (a::r0) 1=[61]
     ·rw[ai Y];have B:(tok p 0).aj=2/\is p 1 [61]=true:=⟨by grind,by grind⟩;have⟨t,q,H,i⟩:=LK (d:=d+1) A
      rcases i with⟨r,i,m⟩|⟨x,i,m⟩
      ·rw[i];refine⟨one 7 (tok p 0).at_ (tok p 0).s [t],want q [59],fun g z=>?_,by grind,m⟩;exact zdK
      ·rw[i];refine⟨one 7 (tok p 0).at_ (tok p 0).s [t],want q [59],fun g z=>?_,m⟩;exact zdK
     ·rw[ab Y]
      have B:¬((tok p 0).aj=2/\is p 1 [61]=true):=fun hx=>Y ⟨by grind,by grind⟩
      obtain⟨t,q,H,i⟩:=Je (d:=d+1) A (a8 _)
      rcases i with⟨r,i,m⟩|⟨x,i,m⟩
      ·rw[i];simp only;have DV:is q 0 [61]=decide (aJ r 0=[61]):=On.is m.1 0 aD
       by_cases N:t.n.aj=3/\t.n.at_=a.at_/\aJ r 0=[61]
       ·rw[ai N];have⟨a',pre,Uu,Uv⟩:=KO i;cases Uu;have⟨hk2,aaO,w,XN,Uy⟩:=(Uv (On.srt A hs)).2 N.1 N.2.1
        have Wh:ub q=[93]:=by grind[On.last]
        have W:wa p q t:=⟨N.1,m.1.code,Wh,by grind,by grind,by grind⟩;obtain⟨ix,hix⟩:=Mw _ _ _ _ _ _ (fun k d out hj=>by cases hj) i N.1
        have Qo:Go.Xp.ba p.e [61] r=.ok r.tail:=by grind[ba]
        have XO:=On.want m.1 (s:=[61]) aD;rw[m.2.2,Qo]at XO;have G:=m.tr XO;have⟨v,q2,E,O⟩:=Jd (d:=d+1) (b:=[59]) G.1 aD;rw[G.2.2]at O;rw[G.2.1]at E;refine⟨one 8 (tok p 0).at_ t.n.s [ix,v],want q2 [59],fun g z=>?_,?_⟩
        ·exact za1
        ·unfold Go.Xp.inner;rw[Qo];simp only
         rcases O with⟨r2,r',i,m,E⟩|⟨r2,x,i,m,E⟩|⟨x,i,E⟩
         ·rw[i];simp only;rw[m];exact⟨by grind,G.tr E⟩
         ·rw[i];simp only;rw[m];exact zeD
         ·rw[i];exact zeD
       ·rw[ab N]
        have W:¬wa p q t:=fun M=>N ⟨M.1,by rw[<-ht];exact M.2.2.2.1,by have:=M.2.2.2.2.2;grind⟩
        refine⟨one 12 (tok p 0).at_ [] [t],want q [59],fun g z=>?_,?_⟩
        ·exact za1
        ·rcases mM m.1 (s:=[59]) aD with⟨r',E,O⟩|⟨x,E,O⟩
         ·rw[m.2.2]at E;rw[E];exact⟨by rw[ht],m.tr O⟩
         ·rw[m.2.2]at E;rw[E];exact m.tr (y:=.error x) O
      ·rw[i]
       have W:¬wa p q t:=fun M=>m.err M.2.1
       refine⟨one 12 (tok p 0).at_ [] [t],want q [59],fun g z=>?_,by rw[iv m.err];exact m⟩;exact za1
  ·rw[rs.body]at h |-;have hi:is p 0 [125]=decide (aJ ts 0=[125]):=On.is A 0 aD
   by_cases X:aJ ts 0=[125]
   ·rw[ai X];have hm:=On.want A (s:=[125]) aD;unfold Go.Xp.ba at hm;rw[ai X]at hm;refine⟨acc,p,fun g z=>?_,rfl,hm⟩;obtain⟨g,rfl,o,j⟩:=pg z
    grind[iB]
   ·rw[ab X]at h |-
    have Ly:rs p.e f (.stmt d) ts≠.error bJ:=fun M=>h (by rw[M])
    have⟨a,q,H,i⟩:=C.stmt d ts p A hs Ly;have hc:p.code=0/\is p 0 [125]=false:=⟨A.code,by grind⟩
    cases he:rs p.e f (.stmt d) ts with
    |error x =>
     rw[he]at i h;refine⟨acc++[a],q,fun g z=>?_,by rw[iv (cS.err i)];exact i⟩;obtain⟨g,rfl,o,j⟩:=pg z;rw[iB,ai hc,H g o];simp only;obtain⟨g,rfl⟩:∃g',g=g'+1:=⟨g-1,by omega⟩;rw[iB,ab (fun M=>cS.err i M.1)]
    |ok y =>
     have⟨a',r⟩:=y;rw[he]at i h;obtain⟨rfl,i⟩:=i;simp only at h |-;rw[<-i.2.2]at h |-;obtain⟨l,q3,m,E⟩:=C.body d (acc++[a]) r q i.1 (by rw[i.2.1];exact hs) h;rw[CO i.2.1]at m;refine⟨l,q3,fun g z=>?_,eW.tr i E⟩;obtain⟨g,rfl,o,j⟩:=pg z
     grind[iB]
section
variable{p q:RS}
theorem rQ{k:Nat}(h:(tok p k).aj≠0):p.i+k<p.l.length:=by
 grind[tok,Nat.lt_of_not_le,List.getElem?_eq_none_iff]
theorem is_lt{k:Nat}{s:ah}(h:is p k s=true):p.i+k<p.l.length:=by
 simp_all[is,aZ,rQ]
theorem kO{s:ah}(h:is p 0 s=true):p.to p.next:=cR (is_lt h)
theorem wg(W:p.ok):p.to (ly p):=mI W _ _
theorem dc(W:p.ok)(s:ah):p.to (want p s):=by
 grind[kO,wg,jU,RS.to,want]
theorem jy(W:p.ok):p.to (cm p):=by
 unfold cm;split
 ·split
  ·rename_i h;split
   ·grind[mI]
   ·exact cR (rQ (k:=0) aO)
  ·exact wg W
 ·exact jU W
theorem uk(W:p.ok)(d:Nat):p.to (cN p d):=by
 grind[mI,jU,RS.to,cN]
theorem oY{d:Nat}(h:(cN p d).code=0):cN p d=p:=by
 unfold cN at h |-
 grind[RS.fail]
end
def kj:∀(f:Nat),(∀j p t q,p.ok->iE f j p=some (t,q)->p.to q)/\(∀d T p l q,p.ok->iA f d T p=some (l,q)->p.to q)
 |0=>⟨fun j p t q _ h=>by simp[iE]at h,fun d T p l q _ h=>by simp[iA]at h⟩
 |f+1=>by
  have⟨o,n⟩:=kj f;refine⟨fun j p t q W h=>?_,fun d T p l q W h=>?_⟩
  ·cases j with
   |expr d =>
    rw[iE]at h;have Y:=uk W d;split at h
    ·exact Y.trans (o _ _ _ _ (Y.ok W) h)
    grind
   |level k d =>
    rw[iE]at h;split at h
    ·grind
    ·split at h
     ·cases h
     ·rename_i out m e;have:=o _ _ _ _ W e;exact zcv
   |loop k d out =>
    rw[iE]at h;split at h
    ·rename_i X;have c:=cR (p:=p) (rQ (k:=0) aO);split at h
     ·cases h
     ·rename_i b m e;have:=c.trans (o _ _ _ _ (c.ok W) e);exact zcv
    grind[jU]
   |operand d =>
    rw[iE]at h;split at h
    ·split at h
     ·rename_i X
      have c:p.to p.next:=by grind[kO]
      split at h
      ·cases h
      ·rename_i a m e
       cases h;exact c.trans (o _ _ _ _ (c.ok W) e)
     ·split at h
      ·rename_i N
       cases h;exact cR (rQ (k:=0) aO)
      ·split at h
       ·rename_i X;have c:=kO X;split at h
        ·cases h
        ·rename_i a m e;have:=c.trans (o _ _ _ _ (c.ok W) e)
         cases h;exact zby
       ·have c:=jy W;split at h
        ·split at h
         ·rename_i X;have i:=c.trans (kO X);split at h
          ·cases h
          ·rename_i a m e;have:=i.trans (o _ _ _ _ (i.ok W) e)
           cases h;exact zby
         ·split at h
          ·rename_i X;have i:=c.trans (kO X);split at h
           ·cases h
           ·rename_i a m e
            cases h;exact i.trans (n _ _ _ _ _ (i.ok W) e)
          grind
        grind
    grind[uk]
  ·rw[iA]at h;split at h
   ·have c:p.to (if T.length=0 then p else want p [44]):=by
     grind[jU,dc]
    split at h
    ·cases h
    ·rename_i a m e;have:=c.trans (o _ _ _ _ (c.ok W) e);exact this.trans (n _ _ _ _ _ (this.ok W) h)
   grind[dc]
def CV:∀(f:Nat),(∀j p t q,p.ok->iS f j p=some (t,q)->p.to q)/\(∀d T p l q,p.ok->iB f d T p=some (l,q)->p.to q)
 |0=>⟨fun j p t q _ h=>by simp[iS]at h,fun d T p l q _ h=>by simp[iB]at h⟩
 |f+1=>by
  have⟨o,n⟩:=CV f;have z:=(kj f).1;refine⟨fun j p t q W h=>?_,fun d T p l q W h=>?_⟩
  ·cases j with
   |block d =>
    rw[iS]at h;split at h
    ·have u:=dc W [123];split at h
     ·cases h
     ·rename_i l k i;have:=u.trans (n _ _ _ _ _ (u.ok W) i)
      cases h;exact zby
    grind[uk]
   |stmt d =>
    rw[iS]at h;split at h
    ·split at h
     ·rename_i G;have c:=kO G;have A:=c.trans (jy (c.ok W));have R:=A.trans (dc (A.ok W) [61]);split at h
      ·cases h
      ·rename_i e k i;have:=R.trans (z _ _ _ _ (R.ok W) i)
       cases h;exact zby
     ·split at h
      ·rename_i G
       have c:p.to p.next:=by grind[kO]
       have R:=c.trans (dc (c.ok W) [40]);split at h
       ·cases h
       ·rename_i e k i;have:=R.trans (z _ _ _ _ (R.ok W) i);have S:=this.trans (dc (this.ok W) [41]);split at h
        ·cases h
        ·rename_i b Y w;have O:=S.trans (o _ _ _ _ (S.ok W) w);split at h
         ·rename_i X;have m:=O.trans (kO X.2.2);split at h
          ·cases h
          ·rename_i B C Q
           cases h;exact m.trans (o _ _ _ _ (m.ok W) Q)
         grind
      ·split at h
       ·rename_i G;have c:=kO G;split at h
        ·cases h
        ·rename_i e k i;have:=c.trans (z _ _ _ _ (c.ok W) i)
         cases h;exact zby
       ·split at h
        ·have A:=jy W;have R:=A.trans (dc (A.ok W) [61]);split at h
         ·cases h
         ·rename_i e k i;have:=R.trans (z _ _ _ _ (R.ok W) i)
          cases h;exact zby
        ·split at h
         ·cases h
         ·rename_i e k i;have hx:=z _ _ _ _ W i;split at h
          ·have c:=hx.trans (dc (hx.ok W) [61]);split at h
           ·rename_i a r v Y N s;have:=c.trans (z _ _ _ _ (c.ok W) s)
            cases h;exact zby
           ·cases h
          ·cases h;exact hx.trans (dc (hx.ok W) _)
    grind[uk]
  ·rw[iB]at h;split at h
   ·split at h
    ·cases h
    ·rename_i a k i;have:=o _ _ _ _ W i;exact this.trans (n _ _ _ _ _ (this.ok W) h)
   grind[jU]
theorem vd(p:RS):p.next.i=p.i+1:=rfl
def UD:∀(f:Nat)j p t q,p.ok->iE f j p=some (t,q)->q.code=0->(∀k d out,j≠.loop k d out)->p.i<q.i:=by
 intro f
 induction f with
 |zero=>grind[iE]
 |succ f O =>
  intro j p t q W h J Y
  cases j with
  |loop k d out=>grind
  |expr d =>
   grind[iE,oY]
  |level k d =>
   rw[iE]at h;split at h
   ·grind
   ·split at h
    ·cases h
    ·rename_i out m e;have n:=(kj f).1 _ _ _ _ W e
     have N:m.code=0:=by
      by_cases X:m.code=0
      ·exact X
      ·cases f with
       |zero=>simp[iE]at h
       |succ f =>
        simp_all[iE,ab]
     have o:=O _ _ _ _ W e N (fun k d out h=>by cases h);have b:=(kj f).1 _ _ _ _ (n.ok W) h;have:=b.2.2.2;omega
  |operand d =>
   rw[iE]at h;split at h
   ·split at h
    ·rename_i X
     have l:p.to p.next:=by grind[kO]
     split at h
     ·cases h
     ·rename_i a m e;cases h;have:=((kj f).1 _ _ _ _ (l.ok W) e).2.2.2
      grind[vd]
    ·split at h
     ·grind[vd]
     ·split at h
      ·rename_i X;have l:=kO X;split at h
       ·cases h
       ·rename_i a m e;cases h;have o:=(kj f).1 _ _ _ _ (l.ok W) e;have b:=(dc ((o.ok (l.ok W))) [41]).2.2.2;have:=o.2.2.2
        grind[vd]
      ·have l:=jy W;split at h
       ·rename_i R
        have N:p.i<(cm p).i:=by
         unfold cm at R |-;split at R
         ·rename_i r;split at R
          ·rename_i b;split at R
           ·unfold RS.fail at R;grind
           simp_all[ai,ab,vd]
          ·unfold ly RS.fail at R;grind
         omega
        split at h
        ·rename_i X;have c:=l.trans (kO X);split at h
         ·cases h
         ·rename_i a m e;cases h;have o:=(kj f).1 _ _ _ _ (c.ok W) e;have b:=(dc ((o.ok (c.ok W))) [93]).2.2.2;have:=o.2.2.2
          grind[vd]
        ·split at h
         ·rename_i X;have c:=l.trans (kO X);split at h
          ·cases h
          ·rename_i a m e;cases h;have:=((kj f).2 _ _ _ _ _ (c.ok W) e).2.2.2
           grind[vd]
         grind
       grind
   grind
end Go.Im
namespace Go.Xp
mutual
def be:T->Nat
 |.mk _ l=>aP l+1
def aP:List T->Nat
 |[]=>0
 |t::r=>be t+aP r
end
def bm:Nat->List T->List Int
 |_,[]=>[]
 |n,t::r=>(n:Int)::bm (n+be t) r
mutual
def fR:Nat->T->List Nd
 |n,.mk C l=>⟨C.aj,C.at_,C.n,C.s,bm (n+1) l⟩::cv (n+1) l
def cv:Nat->List T->List Nd
 |_,[]=>[]
 |n,t::r=>fR n t++cv (n+be t) r
end
theorem fa(t:T):be t=aP t.aw+1:=by cases t;rfl
theorem DG(n:Nat)(t:T):fR n t=⟨t.n.aj,t.n.at_,t.n.n,t.n.s,bm (n+1) t.aw⟩::cv (n+1) t.aw:=by cases t;rfl
section
variable(a b:List T)
theorem jE:aP (a++b)=aP a+aP b:=by
 induction a with
 |nil=>simp[aP]
 |cons t a O=>grind[aP]
theorem qe(n:Nat):bm n (a++b)=bm n a++bm (n+aP a) b:=by
 induction a generalizing n with
 |nil=>rfl
 |cons t a O=>grind[bm,aP]
theorem lH(n:Nat):cv n (a++b)=cv n a++cv (n+aP a) b:=by
 induction a generalizing n with
 |nil=>rfl
 |cons t a O=>grind[cv,aP]
end
theorem cW(a:List T)(n:Nat):(bm n a).length=a.length:=by
 induction a generalizing n with
 |nil=>rfl
 |cons t a O=>simp[bm,O]
def KS:∀(N:Nat),(∀t:T,be t<=N->∀n,(fR n t).length=be t)/\(∀l:List T,aP l<=N->∀n,(cv n l).length=aP l):=by
 intro N
 induction N with
 |zero =>
  refine⟨fun t h=>by grind[fa],fun l h n=>?_⟩
  cases l with
  |nil=>rfl
  |cons t l=>rw[aP,fa]at h;omega
 |succ N O =>
  have o:∀t:T,be t<=N+1->∀n,(fR n t).length=be t:=fun t h n=>by
   grind[fa,DG,length_cons]
  refine⟨o,fun l=>?_⟩
  induction l with
  |nil=>intro _ n;rfl
  |cons t l z =>
   grind[aP,cv]
theorem RM(t:T)(n:Nat):(fR n t).length=be t:=(KS (be t)).1 t (a8 _) n
theorem ki(l:List T)(n:Nat):(cv n l).length=aP l:=(KS (aP l)).2 l (a8 _) n
def iJ(l:List T)(k:Nat):aP (l.take k)<=aP l:=by
 grind[jE,take_append_drop]
def jl{l:List T}{k:Nat}{t:T}(h:l[k]?=some t):aP (l.take (k+1))=aP (l.take k)+be t:=by
 grind[c7,jE,aP,be]
theorem dU(l:List T):l.length<=aP l:=by
 induction l with
 |nil=>simp
 |cons t l O=>rw[aP,fa,length_cons];omega
open Go.Sp (bZ ga)
abbrev K:=Int × Int × ah
def kf(t:Tok):K:=(t.aj,t.n,t.s)
abbrev kS(s:ah):K:=(3,0,s)
abbrev kN(s:ah):K:=(2,0,s)
abbrev kI(n:Int):K:=(1,n,[])
inductive E where
 |num (n:Int)
 |name (s:ah)
 |at_ (s:ah) (a:E)
 |call (s:ah) (l:List E)
 |un (s:ah) (a:E)
 |bin (s:ah) (a b:E)
def ff(s:ah):Nat:=(levels.findIdx? fun l=>l.contains s).getD 9
def E.lv:E->Nat
 |.bin s _ _=>ff s
 |_=>9
def brk(lv k:Nat)(x:List K):List K:=if lv<k then kS [40]::(x++[kS [41]])else x
mutual
def E.tk:E->List K
 |.num n=>[kI n]
 |.name s=>[kN s]
 |.at_ s a=>kN s::kS [91]::(a.tk++[kS [93]])
 |.call s l=>kN s::kS [40]::(E.nD l++[kS [41]])
 |.un s a=>kS s::brk a.lv 9 a.tk
 |.bin s a b=>brk a.lv (ff s) a.tk++kS s::brk b.lv (ff s+1) b.tk
def E.nD:List E->List K
 |[]=>[]
 |a::l=>a.tk++E.qn l
def E.qn:List E->List K
 |[]=>[]
 |a::l=>kS [44]::(a.tk++E.qn l)
end
mutual
def E.tree:E->T
 |.num n=>.mk ⟨1,0,n,[],[]⟩ []
 |.name s=>.mk ⟨2,0,0,s,[]⟩ []
 |.at_ s a=>.mk ⟨3,0,0,s,[]⟩ [a.tree]
 |.call s l=>.mk ⟨4,0,0,s,[]⟩ (E.aL l)
 |.un s a=>.mk ⟨5,0,0,s,[]⟩ [a.tree]
 |.bin s a b=>.mk ⟨6,0,0,s,[]⟩ [a.tree,b.tree]
def E.aL:List E->List T
 |[]=>[]
 |a::l=>a.tree::E.aL l
end
def GB(lv k d:Nat)(f:Nat->Bool):Bool:=if lv<k then decide (d<=60)&&decide (d+1<=60)&&f (d+2)else f d
mutual
def E.fit:E->Nat->Bool
 |.num _,d=>decide (d<=60)
 |.name _,d=>decide (d<=60)
 |.at_ _ a,d=>decide (d<=60)&&decide (d+1<=60)&&a.fit (d+2)
 |.call _ l,d=>decide (d<=60)&&E.fits l (d+1)
 |.un _ a,d=>decide (d<=60)&&(if a.lv<9 then decide (d+1<=60)&&decide (d+2<=60)&&a.fit (d+3)else a.fit (d+1))
 |.bin s a b,d=>(if a.lv<ff s then decide (d<=60)&&decide (d+1<=60)&&a.fit (d+2)else a.fit d)&&(if b.lv<ff s+1 then decide (d<=60)&&decide (d+1<=60)&&b.fit (d+2)else b.fit d)
def E.fits:List E->Nat->Bool
 |[],_=>true
 |a::l,d=>decide (d<=60)&&a.fit (d+1)&&E.fits l d
end
mutual
def E.ok:E->Bool
 |.num n=>decide (0<=n)&&decide (n<=2147483647)
 |.name s=>bZ s
 |.at_ s a=>bZ s&&a.ok
 |.call s l=>bZ s&&E.du l
 |.un s a=>(s==[45] ||s==[33] ||s==[126])&&a.ok
 |.bin s a b=>ga s&&a.ok&&b.ok
def E.du:List E->Bool
 |[]=>true
 |a::l=>a.ok&&E.du l
end
mutual
def er:T->T
 |.mk n l=>.mk ⟨n.aj,0,n.n,n.s,[]⟩ (br l)
def br:List T->List T
 |[]=>[]
 |t::l=>er t::br l
end
theorem GZ(l k:List T):br (l++k)=br l++br k:=by
 induction l with
 |nil=>rfl
 |cons t l O=>simp[br,O]
theorem sC(l:List T):br l=l.map er:=by
 induction l with
 |nil=>rfl
 |cons t l O=>simp[br,O]
theorem eY(k a:Int)(s:ah)(l:List T):er (one k a s l)=.mk ⟨k,0,0,s,[]⟩ (br l):=by rfl
def Ev(e:Int)(j:tJ)(ts:List Tok)(x:Rd T):Prop:=∃s,∀f,s<=f->rd e f j ts=x
def Ea(e:Int)(d:Nat)(W:List T)(ts:List Tok)(x:Rd (List T)):Prop:=∃s,∀f,s<=f->rd.args e f d W ts=x
section
variable{e:Int}{d k:Nat}{ts r:List Tok}{t out:T}{x:Rd T}{y:Er}
theorem yg{j w:tJ}{ts u:List Tok}{x m:Rd T}(h:Ev e j ts x)(G:∀f,rd e f j ts=x->rd e (f+1) w u=m):Ev e w u m:=by
 have⟨s,o⟩:=h;refine⟨s+1,fun f l=>?_⟩;obtain⟨f,rfl⟩:∃g,f=g+1:=⟨f-1,by omega⟩
 grind
theorem W9{j w v:tJ}{ts u s:List Tok}{x m W:Rd T}(h:Ev e j ts x)(b:Ev e v s W)(G:∀f,rd e f j ts=x->rd e f v s=W->rd e (f+1) w u=m):Ev e w u m:=by
 have⟨z,o⟩:=h;have⟨dM,q⟩:=b;refine⟨z+dM+1,fun f l=>?_⟩;obtain⟨f,rfl⟩:∃g,f=g+1:=⟨f-1,by omega⟩
 grind
def KM{w:tJ}{u:List Tok}{m:Rd T}(G:∀f,rd e (f+1) w u=m):Ev e w u m :=
 ⟨1,fun f l=>by obtain⟨f,rfl⟩:∃g,f=g+1:=⟨f-1,by omega⟩;exact G f⟩
theorem Ev.expr(hd:d<=60)(h:Ev e (.level 0 (d+1)) ts x):Ev e (.expr d) ts x:=yg h fun f h=>by grind[rd]
theorem Ev.Wa(hd:60<d):Ev e (.expr d) ts (.error (9,place e ts)):=KM fun f=>by grind[rd]
theorem Ev.level(N:k≠9)(h:Ev e (.level (k+1) d) ts (.ok (out,r)))(b:Ev e (.loop k d out) r x):Ev e (.level k d) ts x:=W9 h b fun f h b=>by grind[rd]
theorem Ev.UM(N:k≠9)(h:Ev e (.level (k+1) d) ts (.error y)):Ev e (.level k d) ts (.error y):=yg h fun f h=>by grind[rd]
theorem Ev.Ee(h:Ev e (.operand d) ts x):Ev e (.level 9 d) ts x:=yg h fun f h=>by grind[rd]
theorem Ev.stop(h:aJ ts 0 ∉ levels.getD k []):Ev e (.loop k d out) ts (.ok (out,ts)):=KM fun f=>by
 cases ts with
 |nil=>rw[rd]
 |cons t r =>
  rw[rd,ab];rintro⟨G,C⟩
  simp_all[aJ,getElem?_cons_zero,dN,if_true]
theorem Ev.go{t:Tok}{b:T}{z:List Tok}(G:t.aj=3)(H:t.s∈levels.getD k [])(h:Ev e (.level (k+1) d) r (.ok (b,z)))(c:Ev e (.loop k d (one 6 t.at_ t.s [out,b])) z x):Ev e (.loop k d out) (t::r) x :=
 W9 h c fun f h c=>by grind[rd]
theorem Ev.ZL{t:Tok}(G:t.aj=3)(H:t.s∈levels.getD k [])(h:Ev e (.level (k+1) d) r (.error y)):Ev e (.loop k d out) (t::r) (.error y) :=
 yg h fun f h=>by grind[rd]
theorem Ev.PY(hd:60<d):Ev e (.operand d) ts (.error (9,place e ts)):=KM fun f=>by simp_all[rd.eq_def,ai]
theorem Ev.num{t:Tok}(hd:d<=60)(h:t.aj=1):Ev e (.operand d) (t::r) (.ok (.mk ⟨1,t.at_,t.n,[],[]⟩ [],r)):=KM fun f=>by
 simp_all[rd.eq_def,ab,ai]
theorem Ev.un{t:Tok}{a:T}{z:List Tok}(hd:d<=60)(G:t.aj=3)(H:t.s=[45]\/t.s=[33]\/t.s=[126])(h:Ev e (.operand (d+1)) r (.ok (a,z))):Ev e (.operand d) (t::r) (.ok (one 5 t.at_ t.s [a],z)) :=
 yg h fun f h=>by grind[rd.eq_def]
theorem Ev.unX{t:Tok}(hd:d<=60)(G:t.aj=3)(H:t.s=[45]\/t.s=[33]\/t.s=[126])(h:Ev e (.operand (d+1)) r (.error y)):Ev e (.operand d) (t::r) (.error y) :=
 yg h fun f h=>by grind[rd]
theorem Ev.par{t u:Tok}{a:T}{z:List Tok}(hd:d<=60)(G:t.aj=3)(H:t.s=[40])(M:u.aj=3)(C:u.s=[41])(h:Ev e (.expr (d+1)) r (.ok (a,u::z))):Ev e (.operand d) (t::r) (.ok (a,z)) :=
 yg h fun f h=>by
  rw[rd.eq_def];simp only;rw[ab aO,ai G,ab ze2,ai H,h];simp only[ba,aJ,getElem?_cons_zero,dN,M,if_true,C,tail_cons]
theorem Ev.Y8{t:Tok}(hd:d<=60)(G:t.aj=3)(H:t.s=[40])(h:Ev e (.expr (d+1)) r (.error y)):Ev e (.operand d) (t::r) (.error y) :=
 yg h fun f h=>by grind[rd]
theorem sF{t:Tok}(b:t.aj=2)(M:t.s.length<=12):name e (t::r)=.ok (t.s,r):=by
 simp only[name,b,if_true];grind
theorem Ev.name{t:Tok}(hd:d<=60)(b:t.aj=2)(M:t.s.length<=12)(u:aJ r 0≠[91])(J:aJ r 0≠[40]):Ev e (.operand d) (t::r) (.ok (one 2 t.at_ t.s [],r)):=KM fun f=>by
 simp_all[rd.eq_def,ab,sF]
def Ev.ix{t u w:Tok}{a:T}{z:List Tok}(hd:d<=60)(b:t.aj=2)(N:t.s.length<=12)(O:u.aj=3)(C:u.s=[91])(l:w.aj=3)(M:w.s=[93])(h:Ev e (.expr (d+1)) r (.ok (a,w::z))):Ev e (.operand d) (t::u::r) (.ok (one 3 t.at_ t.s [a],z)) :=
 yg h fun f h=>by
  rw[rd.eq_def];simp only;rw[ab aO,ab aO,ab aO,sF b N];simp only;rw[ai (by simp only[aJ,getElem?_cons_zero,dN,O,if_true,C]),tail_cons,h];simp only[ba,aJ,getElem?_cons_zero,dN,l,if_true,M,tail_cons]
theorem Ev.XU{t u:Tok}(hd:d<=60)(b:t.aj=2)(M:t.s.length<=12)(N:u.aj=3)(C:u.s=[91])(h:Ev e (.expr (d+1)) r (.error y)):Ev e (.operand d) (t::u::r) (.error y) :=
 yg h fun f h=>by
  rw[rd.eq_def];simp only;rw[ab aO,ab aO,ab aO,sF b M];simp only;rw[ai (by simp only[aJ,getElem?_cons_zero,dN,N,if_true,C]),tail_cons,h]
theorem Ev.call{t u:Tok}{l:List T}{z:List Tok}(hd:d<=60)(b:t.aj=2)(N:t.s.length<=12)(M:u.aj=3)(C:u.s=[40])(h:Ea e (d+1) [] r (.ok (l,z))):Ev e (.operand d) (t::u::r) (.ok (one 4 t.at_ t.s l,z)):=by
 have⟨v,o⟩:=h;refine⟨v+1,fun f m=>?_⟩;obtain⟨f,rfl⟩:∃g,f=g+1:=⟨f-1,by omega⟩
 have G:aJ (u::r) 0=[40]:=by simp only[aJ,getElem?_cons_zero,dN,M,if_true,C]
 simp_all[rd.eq_def,ab,sF,ai,tail_cons]
theorem Ev.VZ{t u:Tok}(hd:d<=60)(b:t.aj=2)(N:t.s.length<=12)(M:u.aj=3)(C:u.s=[40])(h:Ea e (d+1) [] r (.error y)):Ev e (.operand d) (t::u::r) (.error y):=by
 have⟨v,o⟩:=h;refine⟨v+1,fun f l=>?_⟩;obtain⟨f,rfl⟩:∃g,f=g+1:=⟨f-1,by omega⟩
 have G:aJ (u::r) 0=[40]:=by simp only[aJ,getElem?_cons_zero,dN,M,if_true,C]
 simp_all[rd.eq_def,ab,sF,ai,tail_cons]
theorem Ea.nil{u:Tok}{W:List T}(M:u.aj=3)(C:u.s=[41]):Ea e d W (u::r) (.ok (W,r)):=⟨1,fun f l=>by
 obtain⟨f,rfl⟩:∃g,f=g+1:=⟨f-1,by omega⟩
 have G:aJ (u::r) 0=[41]:=by simp only[aJ,getElem?_cons_zero,dN,M,if_true,C]
 grind[rd.args]⟩
theorem Ea.first{a:T}{z:List Tok}{x:Rd (List T)}(G:aJ r 0≠[41])(h:Ev e (.expr d) r (.ok (a,z)))(b:Ea e d [a] z x):Ea e d [] r x:=by
 have⟨s,o⟩:=h;have⟨dM,q⟩:=b;refine⟨s+dM+1,fun f l=>?_⟩;obtain⟨f,rfl⟩:∃g,f=g+1:=⟨f-1,by omega⟩
 grind[rd.args]
theorem Ea.TN{a:T}(G:aJ r 0≠[41])(h:Ev e (.expr d) r (.error y)):Ea e d [] r (.error y):=by
 have⟨s,o⟩:=h;refine⟨s+1,fun f l=>?_⟩;obtain⟨f,rfl⟩:∃g,f=g+1:=⟨f-1,by omega⟩
 grind[rd.args]
theorem Ea.more{u:Tok}{W:List T}{a:T}{z:List Tok}{x:Rd (List T)}(ha:W≠[])(M:u.aj=3)(C:u.s=[44])(h:Ev e (.expr d) r (.ok (a,z)))(b:Ea e d (W++[a]) z x):Ea e d W (u::r) x:=by
 have⟨v,o⟩:=h;have⟨dM,q⟩:=b;refine⟨v+dM+1,fun f l=>?_⟩;obtain⟨f,rfl⟩:∃g,f=g+1:=⟨f-1,by omega⟩
 have G:aJ (u::r) 0=[44]:=by simp only[aJ,getElem?_cons_zero,dN,M,if_true,C]
 rw[rd.args,ab ze2,ab ha,ba,ai G];grind
theorem Ea.WC{u:Tok}{W:List T}(ha:W≠[])(M:u.aj=3)(C:u.s=[44])(h:Ev e (.expr d) r (.error y)):Ea e d W (u::r) (.error y):=by
 have⟨v,o⟩:=h;refine⟨v+1,fun f l=>?_⟩;obtain⟨f,rfl⟩:∃g,f=g+1:=⟨f-1,by omega⟩
 have G:aJ (u::r) 0=[44]:=by simp only[aJ,getElem?_cons_zero,dN,M,if_true,C]
 rw[rd.args,ab ze2,ab ha,ba,ai G];grind
structure Stop(r:List Tok)(k:Nat):Prop where
 a:aJ r 0≠[91]
 b:aJ r 0≠[40]
 c:∀j,k<j->aJ r 0 ∉ levels.getD j []
theorem Stop.mono{k':Nat}(h:Stop r k)(N:k<=k'):Stop r k':=⟨h.a,h.b,fun j Y=>h.c j aO⟩
theorem Ev.lift{m:Nat}(h:Ev e (.level m d) ts (.ok (t,r)))(j:m<=9)(G:Stop r k):∀n,m=k+1+n->Ev e (.loop k d t) r x->Ev e (.level k d) ts x:=by
 intro n
 induction n generalizing m with
 |zero=>grind[Ev.level]
 |succ n O =>
  intro i b;exact O (m:=k+1+n) (Ev.level aO ze2 (Ev.stop (G.c _ aO))) aO rfl b
theorem Ev.QE{m:Nat}(h:Ev e (.level m d) ts (.error y))(j:m<=9):∀n,m=k+n->Ev e (.level k d) ts (.error y):=by
 intro n
 induction n generalizing m with
 |zero=>grind
 |succ n O=>grind[Ev.UM]
def Rt(e:Int)(k d:Nat)(ts rest:List Tok)(Q:T->Prop)(b:Bool):Prop :=
 (b=true->∃t,Q t/\(k<9->∀x,Ev e (.loop k d t) rest x->Ev e (.level k d) ts x)/\(k=9->Ev e (.level 9 d) ts (.ok (t,rest))))/\(b=false->∃G,Ev e (.level k d) ts (.error (9,G)))
def Ro(e:Int)(d:Nat)(ts rest:List Tok)(Q:T->Prop)(b:Bool):Prop :=
 (b=true->∃t,Q t/\Ev e (.operand d) ts (.ok (t,rest)))/\(b=false->∃G,Ev e (.operand d) ts (.error (9,G)))
def Rx(e:Int)(d:Nat)(ts rest:List Tok)(Q:T->Prop)(b:Bool):Prop :=
 (b=true->∃t,Q t/\Ev e (.expr d) ts (.ok (t,rest)))/\(b=false->∃G,Ev e (.expr d) ts (.error (9,G)))
def Ro.rt{rest:List Tok}{Q:T->Prop}{b:Bool}(h:Ro e d ts rest Q b)(N:k<=9)(M:Stop rest k):Rt e k d ts rest Q b:=by
 refine⟨fun i=>?_,fun i=>?_⟩
 ·have⟨t,o,c⟩:=h.1 i;exact⟨t,o,fun J x H=>Ev.lift (Ev.Ee c) (a8 _) M (8-k) aO H,fun _=>Ev.Ee c⟩
 ·have⟨G,o⟩:=h.2 i;exact⟨G,Ev.QE (Ev.Ee o) (a8 _) (9-k) aO⟩
theorem Rt.down{rest:List Tok}{Q:T->Prop}{b:Bool}{m:Nat}(h:Rt e m d ts rest Q b)(l:m<9)(O:k<=m)(H:Stop rest k):Rt e k d ts rest Q b:=by
 rcases Nat.lt_or_ge k m with N|w
 ·refine⟨fun i=>?_,fun i=>?_⟩
  ·have⟨t,o,j,_⟩:=h.1 i;have J:=j l _ (Ev.stop (H.c m N));exact⟨t,o,fun M x C=>Ev.lift J aO H (m-1-k) aO C,fun n=>by omega⟩
  ·have⟨G,o⟩:=h.2 i;exact⟨G,Ev.QE o aO (m-k) aO⟩
 grind
theorem Rt.rx{rest:List Tok}{Q:T->Prop}{b:Bool}(h:Rt e 0 (d+1) ts rest Q b)(H:aJ rest 0 ∉ levels.getD 0 []):Rx e d ts rest Q (decide (d<=60)&&b):=by
 by_cases W:d<=60
 ·have:(decide (d<=60)&&b)=b:=by simp[W]
  rw[this];refine⟨fun i=>?_,fun i=>?_⟩
  ·have⟨t,o,c,_⟩:=h.1 i
   grind[Ev.expr,Ev.stop]
  ·have⟨G,o⟩:=h.2 i
   grind[Ev.expr]
 ·have:(decide (d<=60)&&b)=false:=by simp[W]
  rw[this];exact⟨fun i=>(by cases i),fun _=>⟨_,Ev.Wa aO⟩⟩
end
def Ev.QJ{e:Int}{d:Nat}{ts:List Tok}{x:Rd T}(h:Ev e (.level 9 d) ts x):Ev e (.operand d) ts x:=by
 have⟨r,o⟩:=h;refine⟨r,fun f l=>?_⟩;have:=o (f+1) aO
 grind[rd]
def Ro.QJ{e:Int}{d:Nat}{ts rest:List Tok}{Q:T->Prop}{b:Bool}(h:Rt e 9 d ts rest Q b):Ro e d ts rest Q b :=
 ⟨fun i=>by have⟨t,o,_,c⟩:=h.1 i;exact⟨t,o,(c rfl).QJ⟩,fun i=>by have⟨G,o⟩:=h.2 i;exact⟨G,o.QJ⟩⟩
theorem sK{t:Tok}{r:List Tok}{s:ah}(h:kf t=kS s):aJ (t::r) 0=s:=by
 simp only[kf,kS,Prod.mk.injEq]at h;simp only[aJ,getElem?_cons_zero,dN,h.1,if_true,h.2.2]
theorem Bo{t:Tok}{r:List Tok}(h:t.aj≠3):aJ (t::r) 0=[]:=by
 simp only[aJ,getElem?_cons_zero,dN,ab h]
theorem HC{j:Nat}(h:9<=j):levels.getD j []=[]:=by
 rw[List.getD_eq_getElem?_getD,getElem?_eq_none (by simpa[levels]using h)];rfl
def Cy{r:List Tok}{s:ah}(h:aJ r 0=s)(G:s=[]\/s=[41]\/s=[93]\/s=[44]\/s=[59]\/s=[61]):Stop r 0:=by
 have d:∀j,j<9->∀s:ah,(s=[]\/s=[41]\/s=[93]\/s=[44]\/s=[59]\/s=[61])->s ∉ levels.getD j []:=by
  intro j Y s G
  have:∀j,j<9->∀s∈([[],[41],[93],[44],[59],[61]]:List ah),s ∉ levels.getD j []:=by decide
  grind
 refine⟨?_,?_,fun j _=>?_⟩
 ·grind
 ·grind
 grind[Nat.lt_or_ge,HC]
def Ad{r:List Tok}{s:ah}(h:aJ r 0=s)(G:s=[]\/s=[41]\/s=[93]\/s=[44]\/s=[59]\/s=[61]):aJ r 0 ∉ levels.getD 0 []:=by
 grind[levels]
def rM{s:ah}(h:ga s=true):ff s<9/\s∈levels.getD (ff s) []/\s≠[91]/\s≠[40]/\∀j,ff s<j->s ∉ levels.getD j []:=by
 have k:s∈levels.flatten:=by
  grind[ga,pz,List.mem_flatten]
 have R:∀s∈levels.flatten,ff s<9/\s∈levels.getD (ff s) []/\s≠[91]/\s≠[40]/\∀j,j<9->ff s<j->s ∉ levels.getD j []:=by decide
 grind[Nat.lt_or_ge,HC]
def lq(a:E):Prop:=∀(e:Int)(k d:Nat)(s B:List Tok),k<=a.lv->a.ok=true->s.map kf=a.tk->Stop B k->Rt e k d (s++B) B (fun t=>er t=a.tree) (a.fit d)
def VO(a:E):Prop:=∀(e:Int)(k d:Nat)(s B:List Tok),k<=9->a.ok=true->s.map kf=brk a.lv k a.tk->Stop B k->Rt e k d (s++B) B (fun t=>er t=a.tree) (GB a.lv k d a.fit)
section
variable{ts:List Tok}
theorem map_cons{k:K}{l:List K}(h:ts.map kf=k::l):∃t r,ts=t::r/\kf t=k/\r.map kf=l:=List.map_eq_cons_iff.1 h
theorem ej{l T:List K}(h:ts.map kf=l++T):∃a b,ts=a++b/\a.map kf=l/\b.map kf=T:=List.map_eq_append_iff.1 h
theorem jD{k:K}(h:ts.map kf=[k]):∃t,ts=[t]/\kf t=k:=by
 simp_all
end
theorem fc{t:Tok}{s:ah}(h:kf t=kS s):t.aj=3/\t.s=s:=by simp_all[kf,kS,Prod.mk.injEq]
def qd{t:Tok}{s:ah}(h:kf t=kN s):t.aj=2/\t.s=s:=by simp_all[kf,kN,Prod.mk.injEq]
def Oy{t:Tok}{n:Int}(h:kf t=kI n):t.aj=1/\t.n=n:=by simp_all[kf,kI,Prod.mk.injEq]
def lq.rx{a:E}(h:lq a){e:Int}{d:Nat}{ts rest:List Tok}{s:ah}(A:a.ok=true)(M:ts.map kf=a.tk)(G:aJ rest 0=s)(o:s=[]\/s=[41]\/s=[93]\/s=[44]\/s=[59]\/s=[61]) :
  Rx e d (ts++rest) rest (fun t=>er t=a.tree) (decide (d<=60)&&a.fit (d+1)):=(h e 0 (d+1) ts rest (bl _) A M (Cy G o)).rx (Ad G o)
def lq.good{a:E}(h:lq a):VO a:=by
 intro e k d v rest Q C M G;unfold brk at M;unfold GB
 by_cases N:a.lv<k
 ·rw[ai N]at M |-;obtain⟨t,r,rfl,o,b⟩:=map_cons M;obtain⟨A,B,rfl,J,O⟩:=ej b;obtain⟨u,rfl,j⟩:=jD O;have⟨o,H⟩:=fc o;have⟨j,F⟩:=fc j;have hx:=h.rx (e:=e) (d:=d+1) (rest:=u::rest) (s:=[41]) C J (by simp only[aJ,getElem?_cons_zero,dN,j,if_true,F]) ze3;refine Ro.rt ?_ Q G
  have l:t::(A++[u])++rest=t::(A++u::rest):=by simp
  rw[l]
  by_cases T:d<=60
  ·have:(decide (d<=60)&&decide (d+1<=60)&&a.fit (d+2))=(decide (d+1<=60)&&a.fit (d+1+1)):=by simp[T]
   rw[this];refine⟨fun i=>?_,fun i=>?_⟩
   ·have⟨m,R,W⟩:=hx.1 i
    grind[Ev.par]
   ·have⟨S,R⟩:=hx.2 i
    grind[Ev.Y8]
  ·have:(decide (d<=60)&&decide (d+1<=60)&&a.fit (d+2))=false:=by simp[T]
   exact zeh
 ·rw[ab N]at M |-;exact h e k d v rest aO C M G
def sJ{e:Int}{d:Nat}{ts rest:List Tok}{Q:T->Prop}{b:Bool}(h:d<=60->Ro e d ts rest Q b):Ro e d ts rest Q (decide (d<=60)&&b):=by
 by_cases W:d<=60
 ·grind
 ·have:(decide (d<=60)&&b)=false:=by simp[W]
  exact zeh
theorem nk{s:ah}(h:bZ s=true):s.length<=12:=by
 simp_all[Go.Sp.bZ,aZ,decide_eq_true_eq]
def NX(n:Int):lq (.num n):=by
 intro e k d ts rest N A M G;obtain⟨t,rfl,o⟩:=jD M;have⟨o,c⟩:=Oy o;refine Ro.rt ?_ N G
 have:=sJ (e:=e) (d:=d) (ts:=[t]++rest) (rest:=rest) (Q:=fun t=>er t=(E.num n).tree) (b:=true) fun T=>⟨fun _=>⟨_,?_,Ev.num T o⟩,fun h=>by cases h⟩
 ·grind[E.fit]
 ·show er _=_;rw[er,E.tree,c];rfl
def KE(s:ah):lq (.name s):=by
 intro e k d ts rest N A M G;obtain⟨t,rfl,o⟩:=jD M;have⟨o,c⟩:=qd o;simp only[E.ok]at A;refine Ro.rt ?_ N G
 have:=sJ (e:=e) (d:=d) (ts:=[t]++rest) (rest:=rest) (Q:=fun t=>er t=(E.name s).tree) (b:=true) fun T=>⟨fun _=>⟨_,?_,Ev.name T o (by grind[nk]) G.a G.b⟩,fun h=>by cases h⟩
 ·grind[E.fit]
 ·show er _=_;rw[eY,E.tree,c];rfl
def Rv(s:ah){a:E}(C:lq a):lq (.at_ s a):=by
 intro e k d v rest S M N X;simp only[E.ok,aZ]at M;rw[E.tk]at N;obtain⟨t,r,rfl,o,b⟩:=map_cons N;obtain⟨u,r,rfl,G,Q⟩:=map_cons b;obtain⟨A,B,rfl,j,n⟩:=ej Q;obtain⟨w,rfl,O⟩:=jD n;have⟨o,F⟩:=qd o;have⟨G,J⟩:=fc G;have⟨O,H⟩:=fc O
 have W:t.s.length<=12:=by grind[nk]
 have hx:=C.rx (e:=e) (d:=d+1) (rest:=w::rest) (s:=[93]) M.2 j (by simp only[aJ,getElem?_cons_zero,dN,O,if_true,H]) ze3;refine Ro.rt ?_ S X
 have l:t::u::(A++[w])++rest=t::u::(A++w::rest):=by simp
 rw[l,E.fit,Bool.and_assoc]
 refine sJ fun T=>⟨fun i=>?_,fun i=>?_⟩
 ·have⟨m,R,Y⟩:=hx.1 i;exact⟨_,by show er _=_;rw[eY,br,R,F,E.tree];rfl,Ev.ix T o W G J O H Y⟩
 ·have⟨Z,R⟩:=hx.2 i
  grind[Ev.XU]
def Ry(s:ah){a:E}(C:lq a):lq (.un s a):=by
 intro e k d u B N A M H;simp only[E.ok,aZ,Bool.or_eq_true,beq_iff_eq]at A;rw[E.tk]at M;obtain⟨t,r,rfl,o,b⟩:=map_cons M;have⟨o,F⟩:=fc o;have G:k<=9:=N;have X:=Ro.QJ (C.good e 9 (d+1) r B (a8 _) A.2 b (H.mono G));refine Ro.rt ?_ N H
 have j:t.s=[45]\/t.s=[33]\/t.s=[126]:=by grind
 rw[E.fit]
 refine sJ fun T=>⟨fun i=>?_,fun i=>?_⟩
 ·have⟨l,R,O⟩:=X.1 i;exact⟨_,by show er _=_;rw[eY,br,R,F,E.tree];rfl,Ev.un T o j O⟩
 ·have⟨J,R⟩:=X.2 i
  grind[Ev.unX]
def NU(s:ah){a b:E}(O:lq a)(Q:lq b):lq (.bin s a b):=by
 intro e k d ts i Y v J H;simp only[E.ok,aZ]at v;have⟨M,l2,l3,l4,l5⟩:=rM v.1.1;rw[E.tk]at J;obtain⟨A,B,rfl,S,T⟩:=ej J;obtain⟨t,r,rfl,u,W⟩:=map_cons T;have⟨u,l⟩:=fc u;have o:k<=ff s:=Y;have q:=H.mono o;refine Rt.down (m:=ff s) ?_ M o H
 have Z:aJ (t::(r++i)) 0=s:=by simp only[aJ,getElem?_cons_zero,dN,u,if_true,l]
 have G:=O.good e (ff s) d A (t::(r++i)) aO v.1.2 S ⟨by grind,by grind,fun j hj=>by grind⟩;have R:=Q.good e (ff s+1) d r i aO v.2 W (q.mono aO)
 have X:A++t::r++i=A++t::(r++i):=by simp
 rw[X,E.fit]
 change Rt e (ff s) d _ i _ (GB a.lv (ff s) d a.fit&&GB b.lv (ff s+1) d b.fit)
 have F:t.s∈levels.getD (ff s) []:=by grind
 cases n:GB a.lv (ff s) d a.fit with
 |false =>
  refine⟨fun z=>(by cases z),fun _=>G.2 n⟩
 |true =>
  have⟨ta,k1,k2,_⟩:=G.1 n
  cases C:GB b.lv (ff s+1) d b.fit with
  |false =>
   grind[Ev.ZL,Rt,ff,er,E.tree]
  |true =>
   refine⟨fun _=>?_,fun z=>(by cases z)⟩;have⟨N,k3,k4,k5⟩:=R.1 C
   have k6:Ev e (.level (ff s+1) d) (r++i) (.ok (N,i)):=by
    rcases Nat.lt_or_ge (ff s+1) 9 with w|w
    ·exact k4 w _ (Ev.stop (q.c _ aO))
    grind
   exact⟨one 6 t.at_ t.s [ta,N],by show er _=_;rw[eY,br,br,br,k1,k3,l,E.tree],fun _ x hx=>k2 M x (Ev.go u F k6 hx),fun w=>by omega⟩
def P7(k:K):Prop:=k.1=1\/k.1=2\/(k.1=3/\(k.2.2=[45]\/k.2.2=[33]\/k.2.2=[126]\/k.2.2=[40]))
theorem E.head:∀(a:E),a.ok=true->∃k r,a.tk=k::r/\P7 k
 |.num n,_=>⟨_,_,rfl,.inl rfl⟩
 |.name s,_=>⟨_,_,rfl,.inr (.inl rfl)⟩
 |.at_ s a,_=>⟨_,_,rfl,.inr (.inl rfl)⟩
 |.call s l,_=>⟨_,_,rfl,.inr (.inl rfl)⟩
 |.un s a,h=>⟨_,_,rfl,.inr (.inr ⟨rfl,by simp only[E.ok,aZ,Bool.or_eq_true,beq_iff_eq]at h;grind⟩)⟩
 |.bin s a b,h=>by
  simp only[E.ok,aZ]at h;have⟨k,r,o,c⟩:=E.head a h.1.2;rw[E.tk,brk];split
  ·exact⟨_,_,rfl,.inr (.inr ⟨rfl,by simp⟩)⟩
  grind
theorem yN{t:Tok}{r:List Tok}(h:P7 (kf t)):aJ (t::r) 0=[]\/aJ (t::r) 0=[45]\/aJ (t::r) 0=[33]\/aJ (t::r) 0=[126]\/aJ (t::r) 0=[40]:=by
 rcases h with h|h|⟨h,e⟩
 ·grind[Bo,kf]
 ·grind[Bo,kf]
 ·right
  have:aJ (t::r) 0=t.s:=by simp only[kf]at h;simp only[aJ,getElem?_cons_zero,dN,h,if_true]
  rw[this];exact e
def xu(l:List E):Prop:=∀(e:Int)(d:Nat)(W:List T)(t B:List Tok)(u:Tok),E.du l=true->W≠[]->t.map kf=E.qn l->u.aj=3->u.s=[41] ->
 (E.fits l d=true->∃i,br i=E.aL l/\Ea e d W (t++u::B) (.ok (W++i,B)))/\(E.fits l d=false->∃G,Ea e d W (t++u::B) (.error (9,G)))
def KB:xu []:=by
 intro e d T s B u _ v M N C
 have:s=[]:=by simp_all[E.qn]
 subst this;exact⟨fun _=>⟨[],rfl,by grind[Ea.nil]⟩,fun h=>by simp[E.fits]at h⟩
def CA{l:List E}{ts rest:List Tok}{u:Tok}(N:ts.map kf=E.qn l)(M:u.aj=3)(C:u.s=[41]):∃s,aJ (ts++u::rest) 0=s/\(s=[]\/s=[41]\/s=[93]\/s=[44]\/s=[59]\/s=[61]):=by
 cases l with
 |nil =>
  have:ts=[]:=by simp_all[E.qn]
  subst this;exact⟨[41],by simp only[List.nil_append,aJ,getElem?_cons_zero,dN,M,if_true,C],by simp⟩
 |cons a l =>
  grind[E.qn,map_cons,sK]
def I5{a:E}{l:List E}(z:lq a)(k:xu l):xu (a::l):=by
 intro e d T n rest u G Q M N C;simp only[E.du,aZ]at G;rw[E.qn]at M;obtain⟨t,r,rfl,o,b⟩:=map_cons M;obtain⟨A,B,rfl,O,H⟩:=ej b;have⟨o,F⟩:=fc o;have⟨s,w,v⟩:=CA (rest:=rest) H N C;have hx:=z.rx (e:=e) (d:=d) (rest:=B++u::rest) (s:=s) G.1 O w v
 have j:t::(A++B)++u::rest=t::(A++(B++u::rest)):=by simp
 rw[j,E.fits]
 cases c:decide (d<=60)&&a.fit (d+1)with
 |false =>
  refine⟨fun i=>(by simp at i),fun _=>?_⟩;have⟨X,S⟩:=hx.2 c
  grind[Ea.WC]
 |true =>
  have⟨J,S,W⟩:=hx.1 c;have R:=k e d (T++[J]) B rest u G.2 ze3 H N C;refine⟨fun i=>?_,fun i=>?_⟩
  ·have⟨m,Y,Z⟩:=R.1 ze2;exact⟨J::m,by grind[br,E.aL],Ea.more Q o F W ze2⟩
  grind[Ea.more]
def KD(s:ah){l:List E}(Z:∀a r,l=a::r->lq a/\xu r):lq (.call s l):=by
 intro e k d ts rest hk S W hs;simp only[E.ok,aZ]at S;rw[E.tk]at W;obtain⟨t,r,rfl,G,h2⟩:=map_cons W;obtain⟨u,r,rfl,c,C⟩:=map_cons h2;obtain⟨A,B,rfl,R,h6⟩:=ej C;obtain⟨w,rfl,o⟩:=jD h6;have⟨G,H⟩:=qd G;have⟨c,J⟩:=fc c;have⟨o,i⟩:=fc o
 have hl:t.s.length<=12:=by grind[nk]
 refine Ro.rt ?_ hk hs
 have he:t::u::(A++[w])++rest=t::u::(A++w::rest):=by simp
 rw[he,E.fit]
 refine sJ fun hd=>?_
 have Q:(E.fits l (d+1)=true->∃z,br z=E.aL l/\Ea e (d+1) [] (A++w::rest) (.ok (z,rest)))/\(E.fits l (d+1)=false->∃j,Ea e (d+1) [] (A++w::rest) (.error (9,j))):=by
  cases l with
  |nil =>
   have:A=[]:=by simp_all[E.nD]
   subst this;exact⟨fun _=>⟨[],rfl,Ea.nil o i⟩,fun h=>by simp[E.fits]at h⟩
  |cons a l =>
   have⟨Y,Cl⟩:=Z a l rfl;have b:=S.2;simp only[E.du,aZ]at b;rw[E.nD]at R;obtain⟨A,B,rfl,c,C⟩:=ej R;have⟨s,N,O⟩:=CA (rest:=rest) C o i;have hx:=Y.rx (e:=e) (d:=d+1) (rest:=B++w::rest) (s:=s) b.1 c N O;rw[gK]
   have v:aJ (A++(B++w::rest)) 0≠[41]:=by
    have⟨kk,rr,n,F⟩:=E.head a b.1;rw[n]at c;obtain⟨t0,r0,rfl,k3,_⟩:=map_cons c
    grind[yN]
   rw[E.fits]
   cases q:decide (d+1<=60)&&a.fit (d+1+1)with
   |false =>
    refine⟨fun m=>(by simp at m),fun _=>?_⟩;have⟨j,n⟩:=hx.2 q;exact⟨j,Ea.TN (a:=T.mk ⟨0,0,0,[],[]⟩ []) v n⟩
   |true =>
    have⟨X,n,F⟩:=hx.1 q;have M:=Cl e (d+1) [X] B rest w b.2 ze3 C o i;refine⟨fun m=>?_,fun m=>?_⟩
    ·have⟨z,k3,k4⟩:=M.1 ze2;exact⟨X::z,by grind[br,E.aL],Ea.first v F k4⟩
    grind[Ea.first]
 refine⟨fun m=>?_,fun m=>?_⟩
 ·have⟨z,n,F⟩:=Q.1 m;exact⟨_,by show er _=_;rw[eY,n,H,E.tree],Ev.call hd G hl c J F⟩
 grind[Ev.VZ]
mutual
def core:∀(a:E),lq a
 |.num n=>NX n
 |.name s=>KE s
 |.at_ s a=>Rv s (core a)
 |.call s l=>KD s (V0 l)
 |.un s a=>Ry s (core a)
 |.bin s a b=>NU s (core a) (core b)
def V0:∀(l:List E),∀a r,l=a::r->lq a/\xu r
 |[]=>fun a r h=>by cases h
 |a::r=>fun W z h=>by cases h;exact⟨core a,KC r⟩
def KC:∀(l:List E),xu l
 |[]=>KB
 |a::l=>I5 (core a) (KC l)
end
inductive S where
 |set (s:ah) (a:E)
 |put (s:ah) (a b:E)
 |if1 (c:E) (b:List S)
 |if2 (c:E) (b b2:List S)
 |while_ (c:E) (b:List S)
 |ret (a:E)
 |do_ (a:E)
 |var (s:ah) (a:E)
mutual
def S.tk:S->List K
 |.set s a=>kN s::kS [61]::(a.tk++[kS [59]])
 |.put s a b=>kN s::kS [91]::(a.tk++kS [93]::kS [61]::(b.tk++[kS [59]]))
 |.if1 c b=>kS gk::kS [40]::(c.tk++kS [41]::kS [123]::(S.nD b++[kS [125]]))
 |.if2 c b m=>kS gk::kS [40]::(c.tk++kS [41]::kS [123]::(S.nD b++kS [125]::kS iH::kS [123]::(S.nD m++[kS [125]])))
 |.while_ c b=>kS gD::kS [40]::(c.tk++kS [41]::kS [123]::(S.nD b++[kS [125]]))
 |.ret a=>kS gP::(a.tk++[kS [59]])
 |.do_ a=>a.tk++[kS [59]]
 |.var s a=>kS lS::kN s::kS [61]::(a.tk++[kS [59]])
def S.nD:List S->List K
 |[]=>[]
 |a::l=>a.tk++S.nD l
end
mutual
def S.tree:S->T
 |.set s a=>.mk ⟨7,0,0,s,[]⟩ [a.tree]
 |.put s a b=>.mk ⟨8,0,0,s,[]⟩ [a.tree,b.tree]
 |.if1 c b=>.mk ⟨9,0,0,[],[]⟩ [c.tree,.mk ⟨14,0,0,[],[]⟩ (S.aL b)]
 |.if2 c b m=>.mk ⟨9,0,0,[],[]⟩ [c.tree,.mk ⟨14,0,0,[],[]⟩ (S.aL b),.mk ⟨14,0,0,[],[]⟩ (S.aL m)]
 |.while_ c b=>.mk ⟨10,0,0,[],[]⟩ [c.tree,.mk ⟨14,0,0,[],[]⟩ (S.aL b)]
 |.ret a=>.mk ⟨11,0,0,[],[]⟩ [a.tree]
 |.do_ a=>.mk ⟨12,0,0,[],[]⟩ [a.tree]
 |.var s a=>.mk ⟨13,0,0,s,[]⟩ [a.tree]
def S.aL:List S->List T
 |[]=>[]
 |a::l=>a.tree::S.aL l
end
def p9(a:E)(d:Nat):Bool:=decide (d<=60)&&a.fit (d+1)
mutual
def S.fit:S->Nat->Bool
 |.set _ a,d=>decide (d<=60)&&p9 a (d+1)
 |.put s a b,d=>decide (d<=60)&&(p9 (.at_ s a) (d+1)&&p9 b (d+1))
 |.if1 c b,d=>decide (d<=60)&&(p9 c (d+1)&&(decide (d+1<=60)&&S.fits b (d+2)))
 |.if2 c b m,d=>decide (d<=60)&&(p9 c (d+1)&&((decide (d+1<=60)&&S.fits b (d+2))&&(decide (d+1<=60)&&S.fits m (d+2))))
 |.while_ c b,d=>decide (d<=60)&&(p9 c (d+1)&&(decide (d+1<=60)&&S.fits b (d+2)))
 |.ret a,d=>decide (d<=60)&&p9 a (d+1)
 |.do_ a,d=>decide (d<=60)&&p9 a (d+1)
 |.var _ a,d=>decide (d<=60)&&p9 a (d+1)
def S.fits:List S->Nat->Bool
 |[],_=>true
 |a::l,d=>a.fit d&&S.fits l d
end
mutual
def S.ok:S->Bool
 |.set s a=>bZ s&&a.ok
 |.put s a b=>bZ s&&(a.ok&&b.ok)
 |.if1 c b=>c.ok&&S.du b
 |.if2 c b m=>c.ok&&(S.du b&&S.du m)
 |.while_ c b=>c.ok&&S.du b
 |.ret a=>a.ok
 |.do_ a=>a.ok
 |.var s a=>bZ s&&a.ok
def S.du:List S->Bool
 |[]=>true
 |a::l=>a.ok&&S.du l
end
def Es(e:Int)(j:sP)(ts:List Tok)(x:Rd T):Prop:=∃r,∀f,r<=f->rs e f j ts=x
def Eb(e:Int)(d:Nat)(W:List T)(ts:List Tok)(x:Rd (List T)):Prop:=∃r,∀f,r<=f->rs.body e f d W ts=x
def Ev.ex{e:Int}{d:Nat}{ts:List Tok}{x:Rd T}(h:Ev e (.expr d) ts x):Go.Xp.expr e d ts=x:=by
 have⟨r,o⟩:=h;rw[<-AL (e:=e) (d:=d) (ts:=ts) (f:=r+(20*ts.length+12)) aO]
 grind
def Xx(e:Int)(d:Nat)(ts rest:List Tok)(Q:T->Prop)(b:Bool):Prop :=
 (b=true->∃t,Q t/\expr e d ts=.ok (t,rest))/\(b=false->∃G,expr e d ts=.error (9,G))
def Rx.xx{e:Int}{d:Nat}{ts rest:List Tok}{Q:T->Prop}{b:Bool}(h:Rx e d ts rest Q b):Xx e d ts rest Q b :=
 ⟨fun i=>by have⟨t,o,c⟩:=h.1 i;exact⟨t,o,c.ex⟩,fun i=>by have⟨G,o⟩:=h.2 i;exact⟨G,o.ex⟩⟩
def E.xx{a:E}{e:Int}{d:Nat}{ts rest:List Tok}{s:ah}(A:a.ok=true)(M:ts.map kf=a.tk)(G:aJ rest 0=s)(o:s=[]\/s=[41]\/s=[93]\/s=[44]\/s=[59]\/s=[61]) :
  Xx e d (ts++rest) rest (fun t=>er t=a.tree) (p9 a d):=((core a).rx A M G o).xx
def Sx(e:Int)(j:sP)(ts rest:List Tok)(Q:T->Prop)(b:Bool):Prop :=
 (b=true->∃t,Q t/\Es e j ts (.ok (t,rest)))/\(b=false->∃G,Es e j ts (.error (9,G)))
section
variable{e:Int}{d:Nat}{ts rest:List Tok}{Q:T->Prop}{b:Bool}
def r9{j:sP}{x:Rd T}(G:∀f,rs e (f+1) j ts=x):Es e j ts x :=
 ⟨1,fun f l=>by obtain⟨f,rfl⟩:∃g,f=g+1:=⟨f-1,by omega⟩;exact G f⟩
theorem pO(h:d<=60->Sx e (.stmt d) ts rest Q b):Sx e (.stmt d) ts rest Q (decide (d<=60)&&b):=by
 by_cases T:d<=60
 ·grind
 ·have:(decide (d<=60)&&b)=false:=by simp[T]
  exact zdl
theorem qL{u:Tok}{s:ah}(M:u.aj=3)(C:u.s=s):ba e s (u::rest)=.ok rest:=by
 have G:aJ (u::rest) 0=s:=by simp only[aJ,getElem?_cons_zero,dN,M,if_true,C]
 grind[ba]
def tw{u:Tok}{s:ah}(M:u.aj=3)(C:u.s=s):aJ (u::rest) 0=s:=by simp only[aJ,getElem?_cons_zero,dN,M,if_true,C]
theorem uY{a:E}{u w:Tok}{A:List Tok}{Y R:ah}(B:a.ok=true)(N:A.map kf=a.tk)(O:u.aj=3)(C:u.s=Y)(l:w.aj=3)(M:w.s=R)(v:R=[]\/R=[41]\/R=[93]\/R=[44]\/R=[59]\/R=[61]) :
  (p9 a d=true->∃t,er t=a.tree/\inner e d Y R (u::(A++w::rest))=.ok (t,rest))/\(p9 a d=false->∃G,inner e d Y R (u::(A++w::rest))=.error (9,G)):=by
 have hx:=E.xx (e:=e) (d:=d) (rest:=w::rest) B N (tw l M) v;unfold inner;rw[qL O C];refine⟨fun i=>?_,fun i=>?_⟩
 ·have⟨t,o,c⟩:=hx.1 i
  grind[qL]
 ·have⟨G,o⟩:=hx.2 i
  grind
theorem H7{a:E}{v u w:Tok}{A:List Tok}(B:a.ok=true)(j:v.aj=2)(F:v.s.length<=12)(N:A.map kf=a.tk)(O:u.aj=3)(C:u.s=[61])(l:w.aj=3)(M:w.s=[59]) :
  (p9 a d=true->∃t,er t=a.tree/\lZ e d (v::u::(A++w::rest))=.ok ((v.s,t),rest))/\(p9 a d=false->∃G,lZ e d (v::u::(A++w::rest))=.error (9,G)):=by
 have i:=uY (e:=e) (d:=d) (rest:=rest) B N O C l M ze3;unfold lZ
 grind[sF]
theorem jS{t:Tok}{s:ah}(h:t.aj=2)(G:s≠[]):aJ (t::rest) 0≠s:=by grind[Bo]
def rb(s:S):Prop:=∀(e:Int)(d:Nat)(ts rest:List Tok),s.ok=true->ts.map kf=s.tk->aJ rest 0≠iH->Sx e (.stmt d) (ts++rest) rest (fun t=>er t=s.tree) (s.fit d)
theorem N0(s:ah)(a:E):rb (.set s a):=by
 intro e d ts rest M R _;simp only[S.ok,aZ]at M;rw[S.tk]at R;obtain⟨t,r,rfl,o,c⟩:=map_cons R;obtain⟨u,r,rfl,G,W⟩:=map_cons c;obtain⟨A,B,rfl,j,n⟩:=ej W;obtain⟨w,rfl,O⟩:=jD n;have⟨o,F⟩:=qd o;have⟨G,C⟩:=fc G;have⟨O,H⟩:=fc O
 have k:t::u::(A++[w])++rest=t::u::(A++w::rest):=by simp
 have hx:=H7 (e:=e) (d:=d+1) (rest:=rest) M.2 o (by grind[nk]) j G C O H;rw[k,S.fit];have N:t.aj=2/\aJ (t::u::(A++w::rest)) 1=[61]:=⟨o,by simp only[aJ,List.getElem?_cons_succ,getElem?_cons_zero,dN,G,if_true,C]⟩
 refine pO fun X=>⟨fun i=>?_,fun i=>?_⟩
 ·have⟨l,T,Y⟩:=hx.1 i;refine⟨one 7 t.at_ t.s [l],by show er _=_;rw[eY,br,T,F,S.tree];rfl,r9 fun f=>?_⟩;refine zdi ?_;rw[ab (jS o aD),ab (fun h=>h.elim (jS o aD) (jS o aD)),ab (jS o aD)];simp only[simple];grind
 ·have⟨J,T⟩:=hx.2 i;refine⟨J,r9 fun f=>?_⟩;refine zdi ?_;rw[ab (jS o aD),ab (fun h=>h.elim (jS o aD) (jS o aD)),ab (jS o aD)]
  grind[simple]
theorem N1(s:ah)(a:E):rb (.var s a):=by
 intro e d ts rest N M _;simp only[S.ok,aZ]at N;rw[S.tk]at M;obtain⟨v,r,rfl,o,M⟩:=map_cons M;obtain⟨t,r,rfl,q,c⟩:=map_cons M;obtain⟨u,r,rfl,G,T⟩:=map_cons c;obtain⟨A,B,rfl,j,n⟩:=ej T;obtain⟨w,rfl,O⟩:=jD n;have⟨o,z⟩:=fc o;have⟨q,C⟩:=qd q;have⟨G,F⟩:=fc G;have⟨O,H⟩:=fc O
 have k:v::t::u::(A++[w])++rest=v::t::u::(A++w::rest):=by simp
 have hx:=H7 (e:=e) (d:=d+1) (rest:=rest) N.2 q (by grind[nk]) j G F O H;rw[k,S.fit]
 refine pO fun X=>⟨fun i=>?_,fun i=>?_⟩
 ·have⟨l,R,W⟩:=hx.1 i;refine⟨one 13 v.at_ t.s [l],by show er _=_;rw[eY,br,R,C,S.tree];rfl,r9 fun f=>?_⟩;refine zdi ?_;rw[ai (tw o z),tail_cons,W];rfl
 ·have⟨J,R⟩:=hx.2 i;refine⟨J,r9 fun f=>?_⟩;rw[rs,ab aO];simp_all[ai,tw,tail_cons]
def NZ(a:E):rb (.ret a):=by
 intro e d ts rest C M _;simp only[S.ok]at C;rw[S.tk]at M;obtain⟨v,r,rfl,o,F⟩:=map_cons M;obtain⟨A,B,rfl,j,n⟩:=ej F;obtain⟨w,rfl,O⟩:=jD n;have⟨o,s⟩:=fc o;have⟨O,H⟩:=fc O
 have k:v::(A++[w])++rest=v::(A++w::rest):=by simp
 have hx:=E.xx (e:=e) (d:=d+1) (rest:=w::rest) C j (tw O H) ze3;rw[k,S.fit];have G:=tw (rest:=A++w::rest) o s
 refine pO fun W=>⟨fun i=>?_,fun i=>?_⟩
 ·have⟨l,R,T⟩:=hx.1 i;refine⟨one 11 v.at_ [] [l],by show er _=_;rw[eY,br,R,S.tree];rfl,r9 fun f=>?_⟩;refine zdi ?_;rw[ab zfs,ab zfs,ai G,tail_cons,T];simp only;rw[qL O H];rfl
 ·have⟨J,R⟩:=hx.2 i;refine⟨J,r9 fun f=>?_⟩;refine zdi ?_;rw[ab zfs,ab zfs,ai G,tail_cons,R]
def oo(l:List K):Prop:=∀k∈l,k.1=3->k.2.2≠[61]
theorem vY{l T:List K}:oo (l++T)↔oo l/\oo T:=by
 unfold oo;constructor
 ·intro h;exact⟨fun k N=>h k (List.mem_append_left _ N),fun k N=>h k (List.mem_append_right _ N)⟩
 grind
def lV{a:K}{l:List K}:oo (a::l)↔(a.1=3->a.2.2≠[61])/\oo l:=by
 simp[oo,K,ah]
def Et:oo []:=fun k N=>by cases N
theorem xa{lv k:Nat}{x:List K}(h:oo x):oo (brk lv k x):=by
 grind[oo,brk]
mutual
def E.xP:∀(a:E),a.ok=true->oo a.tk
 |.num n,_=>by simp[oo,tk]
 |.name s,_=>by simp[oo,tk]
 |.at_ s a,h=>by
  simp only[E.ok,aZ]at h;rw[E.tk,lV,lV,vY,lV];exact⟨fun h=>zfa,fun _=>aD,E.xP a h.2,fun _=>aD,Et⟩
 |.call s l,h=>by
  simp only[E.ok,aZ]at h;rw[E.tk,lV,lV,vY,lV];exact⟨fun h=>zfa,fun _=>aD,(E.Mf l h.2).1,fun _=>aD,Et⟩
 |.un s a,h=>by
  simp only[E.ok,aZ,Bool.or_eq_true,beq_iff_eq]at h;rw[E.tk,lV];exact⟨fun _=>(by rcases h.1 with(h|h)|h<;>(simp only[kS,h];decide)),xa (E.xP a h.2)⟩
 |.bin s a b,h=>by
  simp only[E.ok,aZ]at h;rw[E.tk,vY,lV];exact⟨xa (E.xP a h.1.2),fun _ o=>(by simp only[kS]at o;rw[o]at h;exact absurd h.1.1 aD),xa (E.xP b h.2)⟩
def E.Mf:∀(l:List E),E.du l=true->oo (E.nD l)/\oo (E.qn l)
 |[],_=>by simp[oo,nD,qn]
 |a::l,h=>by
  simp only[E.du,aZ]at h
  simp_all[E.xP,E.Mf,E.nD,E.qn,vY,lV]
end
theorem JO{ts:List Tok}{k:Nat}{s:ah}(h:∀t,ts[k]?=some t->t.aj=3->t.s≠s)(G:s≠[]):aJ ts k≠s:=by
 unfold aJ
 grind[dN]
theorem FK{a:E}{A:List Tok}{w:Tok}(B:a.ok=true)(k:A.map kf=a.tk)(l:w.s≠[61]):aJ (A++w::rest) 1≠[61]:=by
 have⟨u,r0,W,_⟩:=E.head a B;refine JO (fun t M G i=>?_) aD
 have c:1<=A.length:=by
  grind
 rw[getElem?_append]at M;split at M
 ·have j:kf t∈a.tk:=by grind
  exact E.xP a B _ j G i
 grind
theorem Rw(a:E):rb (.do_ a):=by
 intro e d ts rest C M _;simp only[S.ok]at C;rw[S.tk]at M;obtain⟨A,B,rfl,j,n⟩:=ej M;obtain⟨w,rfl,O⟩:=jD n;have⟨O,H⟩:=fc O
 have l:A++[w]++rest=A++w::rest:=by simp
 have hx:=E.xx (e:=e) (d:=d+1) (rest:=w::rest) C j (tw O H) ze3;have u:=FK (rest:=rest) (w:=w) C j ze2;have⟨v,r0,W,m⟩:=E.head a C;obtain⟨t,r,rfl,T,_⟩:=map_cons (by rw[<-W];exact j);rw[l,S.fit];rw[List.cons_append]at hx u |-;have c:=yN (r:=r++w::rest) (by rw[T];exact m)
 have F:¬(t.aj=2/\aJ (t::(r++w::rest)) 1=[61]):=fun h=>u h.2
 have i:∀s:ah,s=lS\/s=gk\/s=gD\/s=gP->aJ (t::(r++w::rest)) 0≠s:=by
  intro s J;rcases c with h|h|h|h|h<;>rcases J with rfl|rfl|rfl|rfl<;>(rw[h];decide)
 refine pO fun X=>⟨fun k=>?_,fun k=>?_⟩
 ·have⟨o,R,Y⟩:=hx.1 k;refine⟨one 12 t.at_ [] [o],by show er _=_;rw[eY,br,R,S.tree];rfl,r9 fun f=>?_⟩;refine zd5 ?_;simp only[simple];simp_all[ab,tw,qL]
 ·have⟨G,R⟩:=hx.2 k;refine⟨G,r9 fun f=>?_⟩;refine zd5 ?_
  grind[simple]
theorem Ya{s:ah}{a:E}{t u w:Tok}{A:List Tok}{C:ah}(hn:bZ s=true)(B:a.ok=true)(r:t.aj=2)(F:t.s=s)(M:u.aj=3)(G:u.s=[91])(j:A.map kf=a.tk)(O:w.aj=3)(H:w.s=[93])(J:aJ rest 0=C)(o:C=[]\/C=[41]\/C=[93]\/C=[44]\/C=[59]\/C=[61]) :
  Xx e d (t::u::(A++w::rest)) rest (fun x=>er x=(E.at_ s a).tree/\x.n.aj=3/\x.n.at_=t.at_/\x.n.s=s/\∃y,x.aw=[y]/\er y=a.tree) (p9 (.at_ s a) d):=by
 have N:t.s.length<=12:=by grind[nk]
 have hx:=(core a).rx (e:=e) (d:=d+1+1) (rest:=w::rest) (s:=[93]) B j (tw O H) ze3
 have q:Ro e (d+1) (t::u::(A++w::rest)) rest (fun x=>er x=(E.at_ s a).tree/\x.n.aj=3/\x.n.at_=t.at_/\x.n.s=s/\∃y,x.aw=[y]/\er y=a.tree) ((E.at_ s a).fit (d+1)):=by
  rw[E.fit,Bool.and_assoc]
  refine sJ fun T=>⟨fun i=>?_,fun i=>?_⟩
  ·have⟨k,R,S⟩:=hx.1 i;exact⟨one 3 t.at_ t.s [k],⟨by rw[eY,br,R,F,E.tree];rfl,rfl,rfl,F,_,rfl,R⟩,Ev.ix T r N M G O H S⟩
  ·have⟨W,R⟩:=hx.2 i
   grind[Ev.XU]
 exact((q.rt (bl 9) (Cy J o)).rx (Ad J o)).xx
theorem NY(s:ah)(a b:E):rb (.put s a b):=by
 intro e d ts rest F Z _;simp only[S.ok,aZ]at F;rw[S.tk]at Z;obtain⟨t,r,rfl,n,h2⟩:=map_cons Z;obtain⟨u,r,rfl,N,h4⟩:=map_cons h2;obtain⟨A,B,rfl,h5,h6⟩:=ej h4;obtain⟨w,r,rfl,R,h8⟩:=map_cons h6;obtain⟨q,r,rfl,o,H⟩:=map_cons h8;obtain⟨B,C,rfl,J,M⟩:=ej H;obtain⟨z,rfl,i⟩:=jD M;have⟨n,G⟩:=qd n;have⟨N,O⟩:=fc N;have⟨R,T⟩:=fc R;have⟨o,l⟩:=fc o;have⟨i,k⟩:=fc i
 have he:t::u::(A++w::q::(B++[z]))++rest=t::u::(A++w::(q::(B++z::rest))):=by simp
 have X:=tw (rest:=B++z::rest) o l;have hx:=Ya (e:=e) (d:=d+1) (rest:=q::(B++z::rest)) F.1 F.2.1 n G N O h5 R T X ze3;have hv:=uY (e:=e) (d:=d+1) (rest:=rest) F.2.2 J o l i k ze3;rw[he,S.fit]
 have Y:¬(t.aj=2/\aJ (t::u::(A++w::(q::(B++z::rest)))) 1=[61]):=fun h=>by
  simp_all[aJ,List.getElem?_cons_succ,getElem?_cons_zero,dN,if_true]
 have c:∀s:ah,s≠[]->aJ (t::u::(A++w::(q::(B++z::rest)))) 0≠s:=fun s hs=>jS n hs
 refine pO fun hd=>?_
 cases m:p9 (.at_ s a) (d+1)with
 |false =>
  refine⟨fun W=>(by cases W),fun _=>?_⟩;have⟨j,k1⟩:=hx.2 m;refine⟨j,r9 fun f=>?_⟩;refine zcd ?_
  grind[simple]
 |true =>
  have⟨x,⟨_,k1,k2,k3,y,k4,k5⟩,k6⟩:=hx.1 m;refine⟨fun W=>?_,fun W=>?_⟩
  ·have⟨v,k7,k8⟩:=hv.1 ze2;refine⟨one 8 t.at_ s [y,v],by show er _=_;rw[eY,br,br,k5,k7,S.tree];rfl,r9 fun f=>?_⟩;refine zcd ?_;simp only[simple];grind
  ·have⟨j,k7⟩:=hv.2 ze2;refine⟨j,r9 fun f=>?_⟩;refine zcd ?_
   grind[simple]
end
section
variable{e:Int}{d:Nat}{ts rest:List Tok}{Q:T->Prop}{b:Bool}
theorem S.head{s:S}(A:s.ok=true)(M:ts.map kf=s.tk):∃t r,ts=t::r/\∀rest,aJ (t::rest) 0≠iH/\aJ (t::rest) 0≠[125]:=by
 cases s with
 |set s a =>
  exact zce
 |put s a b =>
  exact zce
 |if1 c b =>
  exact zaw
 |if2 c b m =>
  exact zaw
 |while_ c b =>
  exact zaw
 |ret a =>
  exact zaw
 |var s a =>
  exact zaw
 |do_ a =>
  simp only[S.ok]at A;have⟨u,r0,W,l⟩:=E.head a A;rw[S.tk,W]at M;obtain⟨t,r,rfl,o,_⟩:=map_cons M;refine⟨t,r,rfl,fun rest=>?_⟩
  rcases yN (r:=rest) (by rw[o];exact l)with h|h|h|h|h<;>(rw[h];decide)
def ra(l:List S):Prop:=∀(e:Int)(d:Nat)(W:List T)(ts rest:List Tok)(u:Tok),S.du l=true->ts.map kf=S.nD l->u.aj=3->u.s=[125] ->
 (S.fits l d=true->∃i,br i=S.aL l/\Eb e d W (ts++u::rest) (.ok (W++i,rest)))/\(S.fits l d=false->∃G,Eb e d W (ts++u::rest) (.error (9,G)))
theorem KA:ra []:=by
 intro e d T ts rest u _ N M C
 have:ts=[]:=by simp_all[S.nD]
 subst this;refine⟨fun _=>⟨[],rfl,1,fun f l=>?_⟩,fun h=>by simp[S.fits]at h⟩;obtain⟨f,rfl⟩:∃g,f=g+1:=⟨f-1,by omega⟩;rw[rs.body,ai (by exact tw M C),gL];rfl
theorem I4{a:S}{l:List S}(v:rb a)(n:ra l):ra (a::l):=by
 intro e d T ts rest u C N O E;simp only[S.du,aZ]at C;rw[S.nD]at N;obtain⟨A,B,rfl,H,F⟩:=ej N;obtain⟨t,r,rfl,W⟩:=S.head C.1 H
 have k:aJ (B++u::rest) 0≠iH:=by
  cases l with
  |nil =>
   have:B=[]:=by simp_all[S.nD]
   subst this;rw[List.nil_append,tw O E];decide
  |cons X z =>
   simp only[S.du,aZ]at C
   grind[S.nD,ej,S.head]
 have hx:=v e d (t::r) (B++u::rest) C.1 H k
 have j:t::r++B++u::rest=t::r++(B++u::rest):=by simp
 have Y:aJ (t::r++(B++u::rest)) 0≠[125]:=(W _).2;rw[j,S.fits]
 cases c:a.fit d with
 |false =>
  refine⟨fun i=>(by simp at i),fun _=>?_⟩;have⟨G,s,o⟩:=hx.2 c;refine⟨G,s+1,fun f m=>?_⟩;obtain⟨f,rfl⟩:∃g,f=g+1:=⟨f-1,by omega⟩
  grind[rs.body]
 |true =>
  have⟨J,Z,s,o⟩:=hx.1 c;have M:=n e d (T++[J]) B rest u C.2 F O E;refine⟨fun i=>?_,fun i=>?_⟩
  ·have⟨q,R,dM,w⟩:=M.1 ze2;refine⟨J::q,by grind[br,S.aL],s+dM+1,fun f m=>?_⟩;obtain⟨f,rfl⟩:∃g,f=g+1:=⟨f-1,by omega⟩
   grind[rs.body]
  ·have⟨G,dM,R⟩:=M.2 ze2;refine⟨G,s+dM+1,fun f m=>?_⟩;obtain⟨f,rfl⟩:∃g,f=g+1:=⟨f-1,by omega⟩
   grind[rs.body]
theorem ra.blk{l:List S}(C:ra l){A:List Tok}{u w:Tok}(B:S.du l=true)(O:A.map kf=S.nD l)(N:u.aj=3)(E:u.s=[123])(n:w.aj=3)(M:w.s=[125]) :
  Sx e (.block d) (u::(A++w::rest)) rest (fun t=>er t=.mk ⟨14,0,0,[],[]⟩ (S.aL l)) (decide (d<=60)&&S.fits l (d+1)):=by
 have i:=C e (d+1) [] A rest w B O n M
 by_cases T:d<=60
 ·have:(decide (d<=60)&&S.fits l (d+1))=S.fits l (d+1):=by simp[T]
  rw[this];refine⟨fun h=>?_,fun h=>?_⟩
  ·have⟨j,R,r,o⟩:=i.1 h;refine⟨one 14 u.at_ [] j,by grind[eY],r+1,fun f m=>?_⟩;obtain⟨f,rfl⟩:∃g,f=g+1:=⟨f-1,by omega⟩;rw[rs,ab aO,qL N E];simp only;rw[o f aO];rfl
  ·have⟨G,r,o⟩:=i.2 h;refine⟨G,r+1,fun f m=>?_⟩;obtain⟨f,rfl⟩:∃g,f=g+1:=⟨f-1,by omega⟩;rw[rs,ab aO,qL N E];grind
 ·have:(decide (d<=60)&&S.fits l (d+1))=false:=by simp[T]
  exact zdl
theorem wM{j:sP}{x:Rd T}{t:List Tok}{w:sP}{m:Rd T}(h:Es e j ts x)(G:∀f,rs e f j ts=x->rs e (f+1) w t=m):Es e w t m:=by
 have⟨r,o⟩:=h;refine⟨r+1,fun f l=>?_⟩;obtain⟨f,rfl⟩:∃g,f=g+1:=⟨f-1,by omega⟩
 grind
theorem G2{j u:sP}{x W:Rd T}{t s:List Tok}{w:sP}{m:Rd T}(h:Es e j ts x)(c:Es e u s W)(G:∀f,rs e f j ts=x->rs e f u s=W->rs e (f+1) w t=m):Es e w t m:=by
 have⟨r,o⟩:=h;have⟨dM,q⟩:=c;refine⟨r+dM+1,fun f l=>?_⟩;obtain⟨f,rfl⟩:∃g,f=g+1:=⟨f-1,by omega⟩
 grind
theorem NV(c:E){l:List S}(C:ra l):rb (.if1 c l):=by
 intro e d ts rest W ht T;simp only[S.ok,aZ]at W;rw[S.tk]at ht;obtain⟨v,r,rfl,s,h2⟩:=map_cons ht;obtain⟨u,r,rfl,H,h4⟩:=map_cons h2;obtain⟨A,r,rfl,h5,h6⟩:=ej h4;obtain⟨w,r,rfl,M,h8⟩:=map_cons h6;obtain⟨x,r,rfl,O,z⟩:=map_cons h8;obtain⟨B,r,rfl,F,G⟩:=ej z;obtain⟨y,rfl,i⟩:=jD G;have⟨s,t⟩:=fc s;have⟨H,J⟩:=fc H;have⟨M,N⟩:=fc M;have⟨O,R⟩:=fc O;have⟨i,m⟩:=fc i
 have he:v::u::(A++w::x::(B++[y]))++rest=v::u::(A++w::(x::(B++y::rest))):=by simp
 have Z:=uY (e:=e) (d:=d+1) (rest:=x::(B++y::rest)) W.1 h5 H J M N ze3;have o:=C.blk (e:=e) (d:=d+1) (rest:=rest) W.2 F O R i m;have j:=tw (rest:=u::(A++w::(x::(B++y::rest)))) s t;rw[he,S.fit]
 refine pO fun hd=>?_
 cases n:p9 c (d+1)with
 |false =>
  refine⟨fun o=>(by simp at o),fun _=>?_⟩;have⟨k,X⟩:=Z.2 n;refine⟨k,r9 fun f=>?_⟩;refine zdi ?_;rw[ab zfj,ai (.inl j),tail_cons,X]
 |true =>
  have⟨tc,X,k2⟩:=Z.1 n;rw[Bool.true_and];refine⟨fun h=>?_,fun h=>?_⟩
  ·have⟨tb,q,Y⟩:=o.1 h;refine⟨one 9 v.at_ [] [tc,tb],by show er _=_;rw[eY,br,br,X,q,S.tree];rfl,wM Y fun f Y=>?_⟩;refine za2 ?_;simp only;rw[Y];simp only;rw[ai j,ab T];rfl
  ·have⟨k,q⟩:=o.2 h;refine⟨k,wM q fun f q=>?_⟩;refine za2 ?_;grind
theorem I6(c:E){l:List S}(C:ra l):rb (.while_ c l):=by
 intro e d ts rest T Z wx;simp only[S.ok,aZ]at T;rw[S.tk]at Z;obtain⟨v,r,rfl,s,h2⟩:=map_cons Z;obtain⟨u,r,rfl,H,h4⟩:=map_cons h2;obtain⟨A,r,rfl,h5,h6⟩:=ej h4;obtain⟨w,r,rfl,M,h8⟩:=map_cons h6;obtain⟨x,r,rfl,O,z⟩:=map_cons h8;obtain⟨B,r,rfl,F,G⟩:=ej z;obtain⟨y,rfl,i⟩:=jD G;have⟨s,t⟩:=fc s;have⟨H,J⟩:=fc H;have⟨M,N⟩:=fc M;have⟨O,R⟩:=fc O;have⟨i,m⟩:=fc i
 have he:v::u::(A++w::x::(B++[y]))++rest=v::u::(A++w::(x::(B++y::rest))):=by simp
 have Y:=uY (e:=e) (d:=d+1) (rest:=x::(B++y::rest)) T.1 h5 H J M N ze3;have o:=C.blk (e:=e) (d:=d+1) (rest:=rest) T.2 F O R i m;have j:=tw (rest:=u::(A++w::(x::(B++y::rest)))) s t;rw[he,S.fit]
 refine pO fun hd=>?_
 cases n:p9 c (d+1)with
 |false =>
  refine⟨fun o=>(by simp at o),fun _=>?_⟩;have⟨k,W⟩:=Y.2 n;refine⟨k,r9 fun f=>?_⟩;refine zdi ?_;rw[ab zfj,ai (.inr j),tail_cons,W]
 |true =>
  have⟨tc,W,k2⟩:=Y.1 n;rw[Bool.true_and];refine⟨fun h=>?_,fun h=>?_⟩
  ·have⟨tb,q,X⟩:=o.1 h;refine⟨one 10 v.at_ [] [tc,tb],by show er _=_;rw[eY,br,br,W,q,S.tree];rfl,wM X fun f X=>?_⟩;refine zdi ?_;rw[ab zfj,ai (.inr j),tail_cons,k2];simp only;rw[X];simp only;rw[ab zfj];rfl
  ·have⟨k,q⟩:=o.2 h;refine⟨k,wM q fun f q=>?_⟩;refine zdi ?_;rw[ab zfj,ai (.inr j),tail_cons,k2];grind
theorem NW(c:E){l l2:List S}(C:ra l)(C2:ra l2):rb (.if2 c l l2):=by
 intro e d ts rest W ht wx;simp only[S.ok,aZ]at W;rw[S.tk]at ht;obtain⟨v,r,rfl,Z,h2⟩:=map_cons ht;obtain⟨u,r,rfl,h3,h4⟩:=map_cons h2;obtain⟨A,r,rfl,h5,h6⟩:=ej h4;obtain⟨w,r,rfl,h7,h8⟩:=map_cons h6;obtain⟨x,r,rfl,h9,Xb⟩:=map_cons h8;obtain⟨B,r,rfl,ZP,ZQ⟩:=ej Xb;obtain⟨y,r,rfl,k,ZR⟩:=map_cons ZQ;obtain⟨z,r,rfl,m,ZS⟩:=map_cons ZR;obtain⟨t,r,rfl,n,ZT⟩:=map_cons ZS;obtain⟨q,r,rfl,ZU,ZW⟩:=ej ZT;obtain⟨F,rfl,o⟩:=jD ZW;have⟨Z,ZO⟩:=fc Z;have⟨h3,ZX⟩:=fc h3;have⟨h7,Z0⟩:=fc h7;have⟨h9,Z1⟩:=fc h9;have⟨k,G⟩:=fc k;have⟨m,H⟩:=fc m;have⟨n,J⟩:=fc n;have⟨o,M⟩:=fc o
 have he:v::u::(A++w::x::(B++y::z::t::(q++[F])))++rest=v::u::(A++w::(x::(B++y::(z::(t::(q++F::rest)))))):=by simp
 have hi:=uY (e:=e) (d:=d+1) (rest:=x::(B++y::(z::(t::(q++F::rest))))) W.1 h5 h3 ZX h7 Z0 ze3;have s:=C.blk (e:=e) (d:=d+1) (rest:=z::(t::(q++F::rest))) W.2.1 ZP h9 Z1 k G;have N:=C2.blk (e:=e) (d:=d+1) (rest:=rest) W.2.2 ZU n J o M;have j:=tw (rest:=u::(A++w::(x::(B++y::(z::(t::(q++F::rest))))))) Z ZO;have hz:=tw (rest:=t::(q++F::rest)) m H;rw[he,S.fit]
 refine pO fun hd=>?_
 cases O:p9 c (d+1)with
 |false =>
  refine⟨fun s=>(by simp at s),fun _=>?_⟩;have⟨i,k1⟩:=hi.2 O;refine⟨i,r9 fun f=>?_⟩;refine zdi ?_;rw[ab zfj,ai (.inl j),tail_cons,k1]
 |true =>
  have⟨tc,k1,k2⟩:=hi.1 O;rw[Bool.true_and]
  cases R:(decide (d+1<=60)&&S.fits l (d+2))with
  |false =>
   refine⟨fun s=>(by simp at s),fun _=>?_⟩;have⟨i,X⟩:=s.2 R;refine⟨i,wM X fun f X=>?_⟩;refine za2 ?_;grind
  |true =>
   have⟨tb,X,T⟩:=s.1 R;rw[Bool.true_and];refine⟨fun h=>?_,fun h=>?_⟩
   ·have⟨tb2,Y,k6⟩:=N.1 h;refine⟨one 9 v.at_ [] [tc,tb,tb2],by show er _=_;rw[eY,br,br,br,k1,X,Y,S.tree];rfl,G2 T k6 fun f T k6=>?_⟩;refine za2 ?_;simp only;rw[T];simp only;rw[ai j,ai hz,tail_cons,k6];rfl
   ·have⟨i,Y⟩:=N.2 h;refine⟨i,G2 T Y fun f T Y=>?_⟩;refine za2 ?_;grind
end
mutual
def coreS:∀(s:S),rb s
 |.set s a=>N0 s a
 |.put s a b=>NY s a b
 |.if1 c b=>NV c (xy b)
 |.if2 c b m=>NW c (xy b) (xy m)
 |.while_ c b=>I6 c (xy b)
 |.ret a=>NZ a
 |.do_ a=>Rw a
 |.var s a=>N1 s a
def xy:∀(l:List S),ra l
 |[]=>KA
 |a::l=>I4 (coreS a) (xy l)
end
def IX(l:List S):List K:=kS [123]::(S.nD l++[kS [125]])
def cI(l:List S):T:=.mk ⟨14,0,0,[],[]⟩ (S.aL l)
def gm(l:List S)(d:Nat):Bool:=decide (d<=60)&&S.fits l (d+1)
def W1(e:Int):∀f,(∀j ts,rs e f j ts=.error bJ\/rs e (f+1) j ts=rs e f j ts)/\(∀d T ts,rs.body e f d T ts=.error bJ\/rs.body e (f+1) d T ts=rs.body e f d T ts):=by
 intro f
 induction f with
 |zero=>exact⟨fun j ts=>.inl zfx,fun d T ts=>.inl zfl⟩
 |succ f O =>
  have⟨H,R⟩:=O;refine⟨fun j ts=>?_,fun d T ts=>?_⟩
  ·cases j with
   |block d =>
    grind[rs]
   |stmt d =>
    rw[rs,rs];split
    ·simp
    ·simp only;split
     ·simp
     ·split
      ·cases inner e (d+1) [40] [41] ts.tail with
       |error x=>simp
       |ok y =>
        grind
      simp
  grind[rs.body]
def SK{e:Int}{f Z:Nat}{j:sP}{ts:List Tok}(h:rs e f j ts≠.error bJ)(hf:f<=Z):rs e Z j ts=rs e f j ts:=by
 obtain⟨k,rfl⟩:=Nat.exists_eq_add_of_le hf;clear hf
 induction k with
 |zero=>rfl
 |succ k O =>
  rcases(W1 e (f+k)).1 j ts with o|o
  ·grind
  grind
def Dr{l:List S}{e:Int}{d:Nat}{ts rest:List Tok}(B:S.du l=true)(M:ts.map kf=IX l) :
  (gm l d=true->∃t,er t=cI l/\block e d (ts++rest)=.ok (t,rest))/\(gm l d=false->∃G,block e d (ts++rest)=.error (9,G)):=by
 obtain⟨u,r,rfl,o,c⟩:=map_cons M;obtain⟨A,r,rfl,H,E⟩:=ej c;obtain⟨w,rfl,i⟩:=jD E;have⟨o,C⟩:=fc o;have⟨i,F⟩:=fc i;have j:=(xy l).blk (e:=e) (d:=d) (rest:=rest) B H o C i F
 have m:u::(A++[w])++rest=u::(A++w::rest):=by simp
 rw[m]
 have R:∀{x:Rd T},Es e (.block d) (u::(A++w::rest)) x->block e d (u::(A++w::rest))=x:=by
  rintro x⟨s,q⟩;have k:rs e (nw (u::(A++w::rest))) (.block d) (u::(A++w::rest))≠.error bJ:=vD;have:=SK k (Nat.le_add_left _ s)
  grind[block]
 exact⟨fun h=>by have⟨t,W,O⟩:=j.1 h;exact⟨t,W,R O⟩,fun h=>by have⟨G,W⟩:=j.2 h;grind⟩
open Go.Sp (ed dA cL own nA bX)
def bH(n:Int):Int:=if n%4294967296>2147483647 then n%4294967296-4294967296 else n%4294967296
def gW(n:Nat):ah:=if h:n<10 then[UInt8.ofNat (48+n)]else gW (n / 10)++[UInt8.ofNat (48+n%10)]
termination_by n
decreasing_by omega
def Dy(n:Nat):(gW n).length<=n+1:=by
 induction n using Nat.strongRecOn with
 |_ n O =>
 grind[gW]
def cQ:List ah->ah
 |[]=>[]
 |x::r=>x++r.flatMap fun y=>44::32::y
def zG{l:List ah}(h:l≠[])(x:ah):cQ (l++[x])=(cQ l++[44,32])++x:=by
 cases l with
 |nil=>grind
 |cons a l=>simp[ah,cQ]
def vO(l:List ah)(k:Nat):(cQ (l.take k)).length<=(cQ l).length:=by
 cases l with
 |nil=>simp
 |cons a l =>
  cases k with
  |zero=>simp[cQ]
  |succ k =>
   simp only[List.take_succ_cons,cQ,bp]
   have:∀(l:List ah)(k:Nat),((l.take k).flatMap fun y=>(44:UInt8)::32::y).length<=(l.flatMap fun y=>(44:UInt8)::32::y).length:=by
    intro l
    induction l with
    |nil=>simp
    |cons b l O=>intro k;cases k with
     |zero=>simp
     |succ k=>grind
   grind
def qx(lv k:Nat)(x:ah):ah:=if lv<k then(40::x)++[41]else x
mutual
def E.bQ:E->ah
 |.num n=>gW n.toNat
 |.name s=>s
 |.at_ s a=>((s++[91])++a.bQ)++[93]
 |.call s l=>((s++[40])++cQ (E.ei l))++[41]
 |.un s a=>(s++[32])++qx a.lv 9 a.bQ
 |.bin s a b=>(((qx a.lv (ff s) a.bQ++[32])++s)++[32])++qx b.lv (ff s+1) b.bQ
def E.ei:List E->List ah
 |[]=>[]
 |a::l=>a.bQ::E.ei l
end
mutual
def E.full:E->ah
 |.num n=>gW n.toNat
 |.name s=>s
 |.at_ s a=>((s++[91])++a.full)++[93]
 |.call s l=>((s++[40])++cQ (E.tR l))++[41]
 |.un s a=>((40::s)++a.full)++[41]
 |.bin s a b=>(((((40::a.full)++[32])++s)++[32])++b.full)++[41]
def E.tR:List E->List ah
 |[]=>[]
 |a::l=>a.full::E.tR l
end
def E.PD(l:List E):E.ei l=l.map E.bQ:=by
 induction l with
 |nil=>rfl
 |cons a l O=>grind[ei]
def E.La(l:List E):E.tR l=l.map E.full:=by
 induction l with
 |nil=>rfl
 |cons a l O=>grind[tR]
def E.out(C:Bool)(a:E):ah:=if C then a.bQ else a.full
mutual
def S.bQ(x:E->ah):S->ah
 |.set s a=>((s++[32,61,32])++x a)++[59]
 |.put s a b=>((((s++[91])++x a)++[93,32,61,32])++x b)++[59]
 |.if1 c b=>(([105,102,32,40]++x c)++[41,32])++(S.ei x [123,32] b++[125])
 |.if2 c b m=>(((([105,102,32,40]++x c)++[41,32])++(S.ei x [123,32] b++[125]))++[32,101,108,115,101,32])++(S.ei x [123,32] m++[125])
 |.while_ c b=>(([119,104,105,108,101,32,40]++x c)++[41,32])++(S.ei x [123,32] b++[125])
 |.ret a=>([114,101,116,117,114,110,32]++x a)++[59]
 |.do_ a=>x a++[59]
 |.var s a=>((([118,97,114,32]++s)++[32,61,32])++x a)++[59]
def S.ei(x:E->ah):ah->List S->ah
 |acc,[]=>acc
 |acc,a::l=>S.ei x ((acc++a.bQ x)++[32]) l
end
def iG(x:E->ah)(l:List S):ah:=S.ei x [123,32] l++[125]
def Gs(n:Nd)(l:List T):ed (.mk n l)=(dA l&&cL (.mk n l)):=by rw[ed]
theorem tO{l:List T}(h:dA l=true){t:T}(M:t∈l):ed t=true:=by
 induction l with
 |nil=>cases M
 |cons a l O =>
  grind[dA]
theorem pk(n:Nd)(l:List T):er (.mk n l)=.mk ⟨n.aj,0,n.n,n.s,[]⟩ (br l):=by rw[er]
def jN{l:List T}{m i:Nat}(h:bX m i l=true):∀(j:Nat)t,l[j]?=some t->(if i+j<m then nA t.n.aj else t.n.aj==14)=true:=by
 induction l generalizing i with
 |nil=>simp
 |cons a l O =>
  grind[bX]
def DD:∀(l:List T),(∀t∈l,∃a:E,a.ok=true/\er t=a.tree)->∃e:List E,E.du e=true/\br l=E.aL e
 |[],_=>⟨[],rfl,rfl⟩
 |t::l,h=>by
  have⟨a,o,b⟩:=h t (mem_cons_self);obtain⟨e,G,C⟩:=DD l (fun t M=>h t (eQ _ M));exact⟨a::e,by grind[E.du],by grind[br,E.aL]⟩
def toE:∀(J:Nat)(t:T),sizeOf t<=J->ed t=true->nA t.n.aj=true->∃a:E,a.ok=true/\er t=a.tree:=by
 intro J
 induction J with
 |zero=>intro t h;cases t;simp at h
 |succ J R =>
  intro t B z N;have⟨n,l⟩:=t;rw[Gs,aZ]at z;have⟨z,A⟩:=z
  have W:∀t∈l,nA t.n.aj=true->∃a:E,a.ok=true/\er t=a.tree:=fun t M N=>by
   have:=List.sizeOf_lt_of_mem M
   grind[tO]
  have⟨k,at_,v,s,F⟩:=n
  have N:(1:Int)<=k/\k<=6:=by
   simp only[nA,T.n,aZ]at N
   grind
  simp only[cL,own,T.n,T.aw]at A
  obtain rfl|rfl|rfl|rfl|rfl|rfl:k=1\/k=2\/k=3\/k=4\/k=5\/k=6:=by omega
  ·simp at A;have⟨o,c,G,C,e⟩:=A;subst C e;exact⟨.num v,by grind[E.ok],by rfl⟩
  ·simp at A;have⟨o,c,G,C⟩:=A;subst c C;exact⟨.name s,by simp[E.ok,G],by rfl⟩
  ·simp at A;have⟨o,c,G,C,e⟩:=A;subst c
   match l,C with
   |[t],_ =>
    have w:=jN e 0 t rfl;have⟨a,q,O⟩:=W t ze3 ze2;exact⟨.at_ s a,by grind[E.ok],by rw[pk,E.tree,br,O];rfl⟩
  ·simp at A;have⟨o,c,G,e⟩:=A;subst c
   obtain⟨i,q,O⟩:=DD l fun t M=>W t M (by
    have⟨j,Y⟩:=List.mem_iff_getElem?.1 M;have Q:=(b6 Y).1;have:=jN e j t Y
    grind)
   exact⟨.call s i,by grind[E.ok],by rw[pk,E.tree,O]⟩
  ·simp at A;have⟨o,c,G,C,e⟩:=A;subst c
   match l,C with
   |[t],_ =>
    have w:=jN e 0 t rfl;have⟨a,q,O⟩:=W t ze3 ze2;exact⟨.un s a,by grind[E.ok],by rw[pk,E.tree,br,O];rfl⟩
  ·simp at A;have⟨o,c,G,C,e⟩:=A;subst c
   match l,C with
   |[t,u],_ =>
    have w:=jN e 0 t rfl;have r:=jN e 1 u rfl;have⟨a,q,O⟩:=W t ze3 ze2;have⟨b,S,d⟩:=W u ze3 ze2;exact⟨.bin s a b,by grind[E.ok],by grind[pk,br,er,E.tree]⟩
open Go.Sp (jt)
def E1:∀(l:List T),(∀t∈l,∃a:S,a.ok=true/\er t=a.tree)->∃e:List S,S.du e=true/\br l=S.aL e
 |[],_=>⟨[],rfl,rfl⟩
 |t::l,h=>by
  have⟨a,o,b⟩:=h t (mem_cons_self);obtain⟨e,G,C⟩:=E1 l (fun t M=>h t (eQ _ M));exact⟨a::e,by grind[S.du],by grind[br,S.aL]⟩
def toS:∀(J:Nat)(t:T),sizeOf t<=J->ed t=true->(jt t.n.aj=true->∃a:S,a.ok=true/\er t=a.tree)/\(t.n.aj=14->∃l:List S,S.du l=true/\er t=cI l):=by
 intro J
 induction J with
 |zero=>intro t h;cases t;simp at h
 |succ J R =>
  intro t Q F;have⟨n,l⟩:=t;rw[Gs,aZ]at F;have⟨F,A⟩:=F
  have z:∀t∈l,nA t.n.aj=true->∃a:E,a.ok=true/\er t=a.tree:=fun t M N=>toE _ t (a8 _) (tO F M) N
  have B:∀t∈l,t.n.aj=14->∃l:List S,S.du l=true/\er t=cI l:=fun t M N=>by
   have:=List.sizeOf_lt_of_mem M
   grind[tO]
  have r:∀t∈l,jt t.n.aj=true->∃a:S,a.ok=true/\er t=a.tree:=fun t M N=>by
   have:=List.sizeOf_lt_of_mem M
   grind[tO]
  have⟨k,at_,v,s,Y⟩:=n;simp only[cL,own,T.n,T.aw]at A;refine⟨fun N=>?_,fun N=>?_⟩
  ·have N:(7:Int)<=k/\k<=13:=by
    simp only[jt,T.n,aZ]at N
    grind
   obtain rfl|rfl|rfl|rfl|rfl|rfl|rfl:k=7\/k=8\/k=9\/k=10\/k=11\/k=12\/k=13:=by omega
   ·simp at A;have⟨q,d,G,C,e⟩:=A;subst d
    match l,C with
    |[t],_ =>
     have⟨a,o,O⟩:=z t ze3 ze7;exact⟨.set s a,by grind[S.ok],by rw[pk,S.tree,br,O];rfl⟩
   ·simp at A;have⟨q,d,G,C,e⟩:=A;subst d
    match l,C with
    |[t,u],_ =>
     have⟨a,o,O⟩:=z t ze3 ze7;have⟨b,W,i⟩:=z u ze3 zfi;exact⟨.put s a b,by grind[S.ok],by grind[pk,br,er,S.tree]⟩
   ·simp at A;have⟨q,d,G,C,e⟩:=A;subst d G
    rcases C with C|C
    ·match l,C with
     |[t,u],_ =>
      have⟨a,o,O⟩:=z t ze3 ze7;have⟨b,W,i⟩:=B u ze3 zfi;exact⟨.if1 a b,by grind[S.ok],by rw[pk,S.tree,br,br,O,i];rfl⟩
    ·match l,C with
     |[t,u,w],_ =>
      have⟨a,o,O⟩:=z t ze3 ze7;have⟨b,W,i⟩:=B u ze3 zfi;obtain⟨c,X,H⟩:=B w ze3 (by simpa using jN e 2 w rfl);exact⟨.if2 a b c,by grind[S.ok],by rw[pk,S.tree,br,br,br,O,i,H];rfl⟩
   ·simp at A;have⟨q,d,G,C,e⟩:=A;subst d G
    match l,C with
    |[t,u],_ =>
     have⟨a,o,O⟩:=z t ze3 ze7;have⟨b,W,i⟩:=B u ze3 zfi;exact⟨.while_ a b,by grind[S.ok],by rw[pk,S.tree,br,br,O,i];rfl⟩
   ·simp at A;have⟨q,d,G,C,e⟩:=A;subst d G
    match l,C with
    |[t],_ =>
     have⟨a,o,O⟩:=z t ze3 ze7;exact⟨.ret a,by simp[S.ok,o],by rw[pk,S.tree,br,O];rfl⟩
   ·simp at A;have⟨q,d,G,C,e⟩:=A;subst d G
    match l,C with
    |[t],_ =>
     have⟨a,o,O⟩:=z t ze3 ze7;exact⟨.do_ a,by simp[S.ok,o],by rw[pk,S.tree,br,O];rfl⟩
   ·simp at A;have⟨q,d,G,C,e⟩:=A;subst d
    match l,C with
    |[t],_ =>
     have⟨a,o,O⟩:=z t ze3 ze7;exact⟨.var s a,by grind[S.ok],by rw[pk,S.tree,br,O];rfl⟩
  ·simp only[T.n]at N;subst N;simp at A;have⟨q,d,G,C⟩:=A;subst d C
   obtain⟨j,e,o⟩:=E1 l fun t M=>r t M (G t M)
   grind[S.du,er,cI]
def toB{t:T}(h:ed t=true)(N:t.n.aj=14):∃l:List S,S.du l=true/\er t=cI l:=(toS _ t (a8 _) h).2 N
mutual
def wt:T->Nat
 |.mk n l=>30+n.s.length+gz l
def gz:List T->Nat
 |[]=>0
 |t::l=>wt t+gz l
end
mutual
theorem Q4:∀t:T,wt (er t)=wt t
 |.mk n l=>by rw[er,wt,wt,It l]
theorem It:∀l:List T,gz (br l)=gz l
 |[]=>rfl
 |t::l=>by rw[br,gz,gz,Q4 t,It l]
end
def GH:∀(k n:Nat),n<10^(k+1)->(gW n).length<=k+1:=by
 intro k
 induction k with
 |zero=>grind[gW]
 |succ k O =>
  grind[gW]
def sB(lv k:Nat)(x:ah):(qx lv k x).length<=x.length+2:=by grind[qx]
mutual
theorem E.len:∀a:E,a.ok=true->a.bQ.length+4<=wt a.tree/\a.full.length+4<=wt a.tree
 |.num n,h=>by
  simp only[E.ok,aZ]at h;have o:=qu h.1;have c:=qu h.2;have:=GH 9 n.toNat aO
  grind[bQ,wt,tree,full]
 |.name s,h=>by grind[bQ,wt,tree,full]
 |.at_ s a,h=>by
  simp only[E.ok,aZ]at h;have:=E.len a h.2;exact zbY
 |.call s l,h=>by
  simp only[E.ok,aZ]at h;have:=E.lens l h.2
  grind[bQ,wt,tree,full]
 |.un s a,h=>by
  simp only[E.ok,aZ]at h;have:=E.len a h.2;have:=sB a.lv 9 a.bQ;exact zbY
 |.bin s a b,h=>by
  simp only[E.ok,aZ]at h;have:=E.len a h.1.2;have:=E.len b h.2;have:=sB a.lv (ff s) a.bQ;have:=sB b.lv (ff s+1) b.bQ;exact zbY
theorem E.lens:∀l:List E,E.du l=true->(cQ (E.ei l)).length<=gz (E.aL l)/\(cQ (E.tR l)).length<=gz (E.aL l)
 |[],_=>⟨bl _,bl _⟩
 |a::l,h=>by
  simp only[E.du,aZ]at h;have o:=E.len a h.1;have b:=E.lens l h.2;rw[E.ei,E.tR,E.aL,gz]
  have R:∀(x:ah)(l:List ah),(cQ (x::l)).length<=x.length+2+(cQ l).length:=by
   intro x l
   cases l with
   |nil=>simp[cQ]
   |cons y l=>grind[cQ]
  grind
end
mutual
theorem S.len(x:E->ah)(hx:∀a:E,a.ok=true->(x a).length+4<=wt a.tree):∀s:S,s.ok=true->(s.bQ x).length+4<=wt s.tree
 |.set s a,h=>by
  simp only[S.ok,aZ]at h
  exact zaF
 |.put s a b,h=>by
  simp only[S.ok,aZ]at h
  exact zaF
 |.if1 c b,h=>by
  simp only[S.ok,aZ]at h;have:=hx c h.1;have:=S.lens x hx b h.2 [123,32]
  exact zaF
 |.if2 c b m,h=>by
  simp only[S.ok,aZ]at h;have:=hx c h.1;have:=S.lens x hx b h.2.1 [123,32];have:=S.lens x hx m h.2.2 [123,32];rw[S.bQ,S.tree,wt];simp only[gz,wt,bp,length_cons,length_nil]at *;omega
 |.while_ c b,h=>by
  simp only[S.ok,aZ]at h;have:=hx c h.1;have:=S.lens x hx b h.2 [123,32]
  exact zaF
 |.ret a,h=>by
  simp only[S.ok]at h
  exact zaF
 |.do_ a,h=>by
  simp only[S.ok]at h
  exact zaF
 |.var s a,h=>by
  simp only[S.ok,aZ]at h
  exact zaF
theorem S.lens(x:E->ah)(hx:∀a:E,a.ok=true->(x a).length+4<=wt a.tree):∀l:List S,S.du l=true->∀T:ah,(S.ei x T l).length<=T.length+gz (S.aL l)
 |[],_,T=>by grind[ei]
 |a::l,h,T=>by
  simp only[S.du,aZ]at h;have o:=S.len x hx a h.1;have b:=S.lens x hx l h.2 ((T++a.bQ x)++[32]);rw[S.ei,S.aL,gz];simp only[bp,length_cons,length_nil]at b;omega
end
def sA(x:E->ah)(hx:∀a:E,a.ok=true->(x a).length+4<=wt a.tree){l:List S}(h:S.du l=true):(iG x l).length<=wt (cI l):=by
 grind[S.lens,bp,length_cons,length_nil,iG,wt,cI]
end Go.Xp
namespace Go.Im
open Go.Xp Go.Sp
def qA(g:Nat->Option (T × Nat)):List Int->Nat->List T->Option (List T × Nat)
 |[],next,W=>some (W,next)
 |k::r,next,W=>if k=(next:Int)then match g next with
  |none=>none
  |some (t,e)=>qA g r e (W++[t])
  else none
def pf(ae:List Nd):Nat->Nat->Option (T × Nat)
 |0,_=>none
 |f+1,a=>match ae[a]? with
  |none=>none
  |some n=>match qA (pf ae f) n.aw (a+1) []with
   |none=>none
   |some (l,e)=>if n.at_<0 then none else some (.mk n l,e)
def tr(ae:List Nd)(a:Nat):Option (T × Nat):=pf ae (ae.length+1) a
def Ff{ae:List Nd}{g:Nat->Option (T × Nat)}(hg:∀a t e,g a=some (t,e)->a<e/\e<=ae.length/\e=a+be t/\(ae.take e).drop a=fR a t) :
  ∀(ks:List Int)(next:Nat)(W l:List T)(e:Nat),next<=ae.length->qA g ks next W=some (l,e)->∃X,l=W++X/\e=next+aP X/\e<=ae.length/\ks=bm next X/\(ae.take e).drop next=cv next X
 |[],next,W,l,e,c,h=>by
  grind[qA,kQ,qt,iC,aP,bm,cv]
 |k::r,next,W,l,e,c,h=>by
  rw[qA]at h;split at h
  ·rename_i N
   cases J:g next with
   |none=>grind
   |some x =>
    have⟨t,w⟩:=x;rw[J]at h;simp only at h;have⟨a1,F,A,b⟩:=hg _ _ _ J;have⟨X,m,n,v,B,s⟩:=Ff hg r w (W++[t]) l e F h
    grind[aP,bm,cv]
  ·cases h
def zf{ae:List Nd}:∀(f a:Nat)(t:T)(e:Nat),pf ae f a=some (t,e)->a<e/\e<=ae.length/\e=a+be t/\(ae.take e).drop a=fR a t
 |0,a,t,e,h=>by cases h
 |f+1,a,t,e,h=>by
  rw[pf]at h
  cases c:ae[a]? with
  |none=>grind
  |some n =>
   rw[c]at h;simp only at h;have N:=(b6 c).1
   cases O:qA (pf ae f) n.aw (a+1) []with
   |none=>grind
   |some x =>
    have⟨l,w⟩:=x;rw[O]at h;simp only at h;split at h
    ·cases h
    ·cases h;have⟨W,m,q,v,A,s⟩:=Ff (zf f) n.aw (a+1) [] l e N O
     have:W=l:=by grind
     subst this;refine⟨by omega,v,by rw[be];omega,?_⟩;rw[fR,<-A,<-s]
     have o:(ae.take e)[a]?=some n:=by grind
     have⟨b,G⟩:=b6 o;rw[lz b,G]
def kB(ae:List Nd):List Fn->Nat->List T->Option (List T × Nat)
 |[],next,W=>some (W,next)
 |f::r,next,W=>match tr ae next with
  |none=>none
  |some (t,e)=>if f.body=(next:Int)then kB ae r e (W++[t])else none
def eB(k:Int)(n:Nat):Bool :=
 if k=1\/k=2 then((n:Int)==0)
 else if k=4\/k=14 then true
 else if k=3\/k=5\/k=7\/k=11\/k=12\/k=13 then((n:Int)==1)
 else if k=6\/k=8\/k=10 then((n:Int)==2)
 else if k=9 then((n:Int)==2) ||((n:Int)==3)
 else false
mutual
def iL:T->Bool
 |.mk n l=>eB n.aj l.length&&w6 l
def w6:List T->Bool
 |[]=>true
 |t::r=>iL t&&w6 r
end
def w5(t:T):iL t=(eB t.n.aj t.aw.length&&w6 t.aw):=by cases t;rfl
theorem qJ(l:List T):w6 l=l.all iL:=by
 induction l with
 |nil=>rfl
 |cons t l O=>grind[w6]
mutual
def dr(ae:List Nd):Nat->T->Prop
 |a,.mk n l=>ae[a]?=some n/\n.aw=bm (a+1) l/\cJ ae (a+1) l
def cJ(ae:List Nd):Nat->List T->Prop
 |_,[]=>True
 |a,t::r=>dr ae a t/\cJ ae (a+be t) r
end
mutual
def wm:T->Prop
 |.mk n l=>0<=n.at_/\l7 l
def l7:List T->Prop
 |[]=>True
 |t::r=>wm t/\l7 r
end
theorem jT(t:T):1<=be t:=by simp[fa]
mutual
theorem dr.le{ae:List Nd}:∀(t:T)(a:Nat),dr ae a t->a+be t<=ae.length
 |.mk n l,a,h=>by
  rw[dr]at h;have o:=(b6 h.1).1;have:=cJ.le l (a+1) h.2.2 o;rw[be];omega
theorem cJ.le{ae:List Nd}:∀(l:List T)(a:Nat),cJ ae a l->a<=ae.length->a+aP l<=ae.length
 |[],a,h,v=>by grind[aP]
 |t::r,a,h,v=>by
  rw[cJ]at h;have o:=dr.le t a h.1;have:=cJ.le r _ h.2 o;rw[aP];omega
end
section
variable{ae:List Nd}
theorem GQ:∀(f:Nat),(∀(a d:Nat)(e:Int),oS ae f a d=some e->0<=e->∃t,dr ae a t/\e=((a+be t:Nat):Int)) /\
  (∀(ks:List Int)(next d:Nat)(e:Int),oR ae f ks (next:Int) d=some e->0<=e->∃l,cJ ae next l/\ks=bm next l/\e=((next+aP l:Nat):Int)):=by
 intro f
 induction f with
 |zero =>
  refine⟨fun a d e h _=>by simp[oS]at h,fun ks next d e h _=>?_⟩
  cases ks with
  |nil=>rw[oR]at h;grind[cJ,bm,aP]
  |cons k r=>simp[oR]at h
 |succ f O =>
  refine⟨fun a d e h i=>?_,fun ks next d e h i=>?_⟩
  ·rw[oS]at h;split at h
   ·grind
   ·cases c:ae[a]? with
    |none=>grind
    |some n =>
     rw[c]at h;simp only at h;rw[show((a:Int)+1)=((a+1:Nat):Int) by omega]at h;have⟨l,o,b,G⟩:=O.2 _ _ _ _ h i;exact⟨.mk n l,by grind[dr],by grind[be]⟩
  ·cases ks with
   |nil=>rw[oR]at h;grind[cJ,bm,aP]
   |cons k r =>
    rw[oR]at h;split at h
    ·rename_i N;subst N;rw[eV]at h
     cases J:oS ae f next (d+1)with
     |none=>grind
     |some w =>
      rw[J]at h;simp only at h;split at h
      ·grind
      ·rename_i q;have⟨t,o,b⟩:=O.1 _ _ _ J aO;subst b;have⟨l,G,C,j⟩:=O.2 _ _ _ _ h i;refine⟨t::l,by grind[cJ],by grind[bm],by grind[aP]⟩
    grind
theorem vr:∀(f:Nat),(∀(t:T)(a:Nat),dr ae a t->2*be t<=f->sub ae f a=some t) /\
  (∀(l:List T)(a:Nat)(W:List T),cJ ae a l->2*aP l+1<=f->oV ae f (bm a l) W=some (W++l)):=by
 intro f
 induction f with
 |zero =>
  grind[jT]
 |succ f O =>
  refine⟨fun t a G h=>?_,fun l a W G h=>?_⟩
  ·have⟨n,l⟩:=t
   grind[dr,be,sub]
  ·cases l with
   |nil=>rw[bm,oV];simp
   |cons t l =>
    rw[cJ]at G;rw[aP]at h;have:=jT t
    grind[oV,bm]
theorem MY:∀(f:Nat)(t:T)(a:Nat),dr ae a t->wm t->be t<=f->pf ae f a=some (t,a+be t):=by
 intro f
 induction f with
 |zero=>grind[jT]
 |succ f O =>
  intro t a G v h;have⟨n,l⟩:=t
  have R:∀(l:List T)(a:Nat)(W:List T),cJ ae a l->l7 l->aP l<=f->qA (pf ae f) (bm a l) a W=some (W++l,a+aP l):=by
   intro l
   induction l with
   |nil=>intro a W _ _ _;rw[bm,qA,aP];simp
   |cons t l z =>
    intro a W G v h;rw[cJ]at G;rw[l7]at v
    grind[qA,pf,bm,aP]
  rw[dr]at G;rw[wm]at v
  grind[pf,be]
theorem Vp:∀(f:Nat)(t:T)(a e:Nat),pf ae f a=some (t,e)->dr ae a t/\e=a+be t/\wm t:=by
 intro f
 induction f with
 |zero=>grind[pf]
 |succ f O =>
  intro t a e h
  have R:∀(u:List Int)(next:Nat)(W l:List T)(e:Nat),qA (pf ae f) u next W=some (l,e)->∃X,l=W++X/\cJ ae next X/\u=bm next X/\e=next+aP X/\l7 X:=by
   intro u
   induction u with
   |nil=>intro next W l e h;rw[qA]at h;grind[cJ,bm,aP,l7]
   |cons k r z =>
    intro next W l e h
    grind[qA,pf,cJ,bm,aP,l7]
  grind[pf,qA,dr,be,wm]
theorem RF(M:ae.length<=800):∀(f:Nat),(∀(t:T)(a d:Nat),dr ae a t->d<=a->2*be t<=f->oS ae f a d=some ((a+be t:Nat):Int)) /\
  (∀(l:List T)(a d:Nat),cJ ae a l->d<a->2*aP l+1<=f->oR ae f (bm a l) (a:Int) d=some ((a+aP l:Nat):Int)):=by
 intro f
 induction f with
 |zero =>
  grind[jT]
 |succ f O =>
  refine⟨fun t a d G W h=>?_,fun l a d G W h=>?_⟩
  ·have⟨n,l⟩:=t;rw[dr]at G;rw[be]at h |-;have N:=(b6 G.1).1;rw[oS,ab aO,G.1];simp only;rw[show((a:Int)+1)=((a+1:Nat):Int) by omega,G.2.1,O.2 l (a+1) d G.2.2 aO aO]
   grind
  ·cases l with
   |nil=>rfl
   |cons t l =>
    rw[cJ]at G;rw[aP]at h |-;have:=jT t;rw[bm,oR,ai rfl,eV,O.1 t a (d+1) G.1 aO aO];simp only;rw[ab aO,O.2 l _ d G.2 aO aO]
    grind
theorem KK:∀(f:Nat),(∀(a d:Nat),2*(ae.length-a)+1<=f->∃e,oS ae f a d=some e/\(0<=e->(a:Int)<e/\a<ae.length)) /\
  (∀(ks:List Int)(next d:Nat),2*(ae.length-next)+2<=f->∃e,oR ae f ks (next:Int) d=some e/\(0<=e->(next:Int)<=e)):=by
 intro f
 induction f with
 |zero=>simp
 |succ f O =>
  refine⟨fun a d h=>?_,fun ks next d h=>?_⟩
  ·rw[oS];split
   ·simp
   ·rename_i W
    cases j:ae[a]? with
    |none=>grind
    |some n =>
     simp only;rw[show((a:Int)+1)=((a+1:Nat):Int) by omega];have⟨e,o,b⟩:=O.2 n.aw (a+1) d aO
     grind
  ·cases ks with
   |nil=>simp[oR]
   |cons k r =>
    rw[oR];split
    ·rename_i N;subst N;rw[eV]
     have⟨e,o,b⟩:=O.1 next (d+1) aO
     rw[o];simp only;split
     ·simp
     ·rename_i q;have G:=b aO;obtain⟨m,rfl⟩:∃m:Nat,e=(m:Int):=⟨e.toNat,by omega⟩;have⟨c,C,i⟩:=O.2 r m d aO
      grind
    simp
end
def eo(Q:Fn->T->Prop):List Fn->Nat->List T->Prop
 |[],_,[]=>True
 |f::r,a,t::l=>f.body=(a:Int)/\Q f t/\eo Q r (a+be t) l
 |_,_,_=>False
theorem eo.len{Q:Fn->T->Prop}:∀{av:List Fn}{a:Nat}{l:List T},eo Q av a l->av.length=l.length
 |[],_,[],_=>rfl
 |f::r,a,t::l,h=>by rw[eo]at h;rw[length_cons,length_cons,eo.len h.2.2]
 |[],_,t::l,h=>by cases h
 |f::r,_,[],h=>by cases h
theorem eo.mono{Q R:Fn->T->Prop}:∀{av:List Fn}{a:Nat}{l:List T},eo Q av a l->(∀f t,f∈av->t∈l->Q f t->R f t)->eo R av a l
 |[],_,[],_,_=>trivial
 |f::r,a,t::l,h,J=>by
  rw[eo]at h |-;exact⟨h.1,J _ _ mem_cons_self mem_cons_self h.2.1,eo.mono h.2.2 fun f t m M=>J f t (eQ _ m) (eQ _ M)⟩
 |[],_,t::l,h,_=>by cases h
 |f::r,_,[],h,_=>by cases h
def eo.at_{Q:Fn->T->Prop}:∀{av:List Fn}{a:Nat}{l:List T},eo Q av a l->∀(i:Nat)f t,av[i]?=some f->l[i]?=some t->f.body=((a+aP (l.take i):Nat):Int)/\Q f t
 |[],_,[],_,i,f,t,o,b=>by simp at o
 |f::r,a,t::l,h,i,Z,k,o,b=>by
  rw[eo]at h
  cases i with
  |zero=>cases o;cases b;rw[List.take_zero,aP];exact⟨h.1,h.2.1⟩
  |succ i =>
   obtain⟨R,O⟩:=eo.at_ h.2.2 i Z k zfk (by simpa using b);exact⟨by rw[R,List.take_succ_cons,aP];omega,O⟩
 |[],_,t::l,h,_,_,_,_,_=>by cases h
 |f::r,_,[],h,_,_,_,_,_=>by cases h
structure Nw(f:Fn)(t:T):Prop where
 name:bZ f.name=true
 params:dm f.params=true
 aj:t.n.aj=14
 all:ed t=true
section
variable{ae:List Nd}
theorem yk:∀(av:List Fn)(next:Nat)(e:Int),jr ae av (next:Int)=some (some e)->∃l,cJ ae next l/\eo Nw av next l/\e=((next+aP l:Nat):Int)
 |[],next,e,h=>by rw[jr]at h;grind[cJ,eo,aP]
 |f::r,next,e,h=>by
  rw[jr,eV]at h
  cases c:oS ae (fN ae) next 0 with
  |none=>grind
  |some w =>
   rw[c]at h;simp only at h;split at h
   ·cases h
   ·rename_i W;split at h
    ·cases h
    ·rename_i X;have⟨t,o,b⟩:=(GQ _).1 _ _ _ c aO;have N:=dr.le t _ o;rw[(vr _).1 t next o zfm]at h;simp only at h;split at h
     ·cases h
     ·rename_i Q;subst b;have⟨l,R,O,S⟩:=yk r _ e h;refine⟨t::l,by grind[cJ],?_,by grind[aP]⟩;rw[eo];refine⟨by omega,⟨?_,?_,?_,?_⟩,O⟩
      ·grind
      ·grind
      ·omega
      grind
theorem yj(M:ae.length<=800):∀(av:List Fn)(next:Nat)(l:List T),cJ ae next l->eo Nw av next l->jr ae av (next:Int)=some (some ((next+aP l:Nat):Int))
 |[],next,[],_,_=>by rfl
 |f::r,next,t::l,h,m=>by
  rw[cJ]at h;rw[eo]at m;have N:=dr.le t _ h.1;rw[jr,eV,(RF M _).1 t next 0 h.1 (bl _) zfm];simp only;rw[ab (by rw[m.2.1.name];grind),ab (by rw[m.2.1.params];decide),(vr _).1 t next h.1 zfm];simp only;rw[ab (by rw[m.2.1.all];rintro(h|h);exact h m.2.1.aj;cases h),yj M r _ l h.2 m.2.2,aP]
  grind
 |[],_,t::l,_,h=>by cases h
 |f::r,_,[],_,h=>by cases h
def wq:∀(av:List Fn)(next:Nat),∃r,jr ae av (next:Int)=some r
 |[],next=>⟨_,by rw[jr]⟩
 |f::r,next=>by
  have⟨e,o,b⟩:=(KK (ae:=ae) (fN ae)).1 next 0 zfm
  rw[jr,eV,o];simp only;split
  ·simp
  ·rename_i W;split
   ·simp
   ·have⟨t,R,O⟩:=(GQ _).1 _ _ _ o aO;have N:=dr.le t _ R;rw[(vr _).1 t next R zfm];simp only;split
    ·simp
    ·rw[O];exact wq r _
end
def JR(p:Src):∃b,oM p=some b:=by
 unfold oM;split
 ·simp
 ·split
  ·simp
  ·have⟨r,h⟩:=wq (ae:=p.ae) p.av 0;rw[show((0:Nat):Int)=0 from rfl]at h;rw[h]
   cases r<;>exact⟨_,rfl⟩
structure cD(p:Src)(l:List T):Prop where
 au:dm p.au=true
 aq:p.aq.all nM=true
 st:cJ p.ae 0 l
 av:eo Nw p.av 0 l
 len:aP l=p.ae.length
 few:p.ae.length<=800
def SX{p:Src}(h:oM p=some true):∃l,cD p l:=by
 unfold oM at h;split at h
 ·cases h
 ·rename_i o;split at h
  ·cases h
  ·rename_i b;rw[show(0:Int)=((0:Nat):Int)from rfl]at h
   cases m:jr p.ae p.av ((0:Nat):Int)with
   |none=>grind
   |some r =>
    rw[m]at h
    cases r with
    |none=>cases h
    |some e =>
     have⟨l,R,O,S⟩:=yk _ _ _ m;simp only[Option.some.injEq,aZ,beq_iff_eq,decide_eq_true_eq]at h;exact⟨l,by grind,by grind,R,O,by omega,by omega⟩
def cD.oM{p:Src}{l:List T}(h:cD p l):oM p=some true:=by
 unfold Go.Sp.oM;rw[ab (by rw[h.au];decide),ab (by rw[h.aq];decide),show(0:Int)=((0:Nat):Int)from rfl,yj h.few _ _ _ h.st h.av];simp only[Option.some.injEq,aZ,beq_iff_eq,decide_eq_true_eq];have:=h.len;have:=h.few;omega
def AA{ae:List Nd}:∀(av:List Fn)(next:Nat)(W l:List T)(e:Nat),kB ae av next W=some (l,e)->∃X,l=W++X/\cJ ae next X/\eo (fun _ _=>True) av next X/\e=next+aP X/\l7 X
 |[],next,W,l,e,h=>by rw[kB]at h;grind[cJ,eo,aP,l7]
 |f::r,next,W,l,e,h=>by
  rw[kB]at h
  cases J:tr ae next with
  |none=>grind
  |some x =>
   have⟨t,w⟩:=x;rw[J]at h;simp only at h;split at h
   ·rename_i i;have⟨a1,F,A⟩:=Vp _ _ _ _ J;subst F;have⟨X,m,n,v,B,s⟩:=AA r _ _ _ _ h
    grind[cJ,eo,aP,l7]
   ·cases h
def Gy{ae:List Nd}{Q:Fn->T->Prop}:∀(av:List Fn)(next:Nat)(W l:List T),cJ ae next l->eo Q av next l->l7 l->kB ae av next W=some (W++l,next+aP l)
 |[],next,W,[],_,_,_=>by rw[kB,aP];simp
 |f::r,next,W,t::l,h,m,v=>by
  rw[cJ]at h;rw[eo]at m;rw[l7]at v;have N:=dr.le t _ h.1;rw[kB,tr,MY _ t next h.1 v.1 aO];simp only;rw[ai m.1,Gy r _ _ l h.2 m.2.2 v.2,aP]
  grind
 |[],_,_,t::l,_,h,_=>by cases h
 |f::r,_,_,[],_,h,_=>by cases h
mutual
def dr.fl{ae:List Nd}:∀(t:T)(a:Nat),dr ae a t->(ae.take (a+be t)).drop a=fR a t
 |.mk n l,a,h=>by
  have N:=dr.le _ _ h;rw[dr]at h;rw[be]at N;have o:=cJ.fl l (a+1) h.2.2 aO;rw[fR,<-h.2.1,<-o,be,show a+(aP l+1)=a+1+aP l by omega]
  have b:(ae.take (a+1+aP l))[a]?=some n:=by grind
  have⟨G,C⟩:=b6 b;rw[lz G,C]
def cJ.fl{ae:List Nd}:∀(l:List T)(a:Nat),cJ ae a l->a<=ae.length->(ae.take (a+aP l)).drop a=cv a l
 |[],a,h,v=>by
  simp[aP,cv]
 |t::r,a,h,v=>by
  rw[cJ]at h;have N:=dr.le _ _ h.1;have o:=dr.fl t a h.1;have b:=cJ.fl r (a+be t) h.2 N;have W:=cJ.le r _ h.2 N;rw[cv,<-o,<-b,aP,show a+(be t+aP r)=a+be t+aP r by omega]
  grind[Nat.min_eq_left,iC,take_append_drop]
end
def cJ.all{ae:List Nd}{l:List T}(h:cJ ae 0 l)(M:aP l=ae.length):ae=cv 0 l:=by
 have:=cJ.fl l 0 h (bl _)
 grind
def po(n:Int):ah:=if n<0 then 45::gW n.natAbs else gW n.toNat
def tj(s:ah):Int:=match levels.findIdx? (fun l=>l.contains s)with|some i=>(i:Int)|none => -1
def uN(b:Bool)(x:ah):ah:=if b=true then(40::x)++[41]else x
def oJ(t:T)(C:Int):Bool:=(t.n.aj==6)&&decide (tj t.n.s<C)
def vu(n:Nd)(l:List T)(x:List ah):ah :=
 if n.aj=1 then po n.n
 else if n.aj=3 then((n.s++[91])++x.getD 0 [])++[93]
 else if n.aj=4 then((n.s++[40])++cQ x)++[41]
 else if n.aj=5 then(n.s++[32])++(match l with|a::_=>uN (a.n.aj==6) (x.getD 0 [])|[]=>[])
 else if n.aj=6 then(match l with
  |a::b::_=>(((uN (oJ a (tj n.s)) (x.getD 0 [])++[32])++n.s)++[32])++uN (oJ b (tj n.s+1)) (x.getD 1 [])
  |_=>[])
 else n.s
mutual
def eh:T->ah
 |.mk n l=>vu n l (jk l)
def jk:List T->List ah
 |[]=>[]
 |t::r=>eh t::jk r
end
def MU(t:T):eh t=vu t.n t.aw (jk t.aw):=by cases t;rfl
theorem Ik(l:List T):jk l=l.map eh:=by
 induction l with
 |nil=>rfl
 |cons t l O=>grind[jk]
mutual
def lB:T->Nat
 |.mk n l=>n.s.length+60+jj l
def jj:List T->Nat
 |[]=>0
 |t::r=>lB t+jj r
end
theorem pj(t:T):lB t=t.n.s.length+60+jj t.aw:=by cases t;rfl
def tG{l:List T}{t:T}(h:t∈l):lB t<=jj l:=by
 induction l with
 |nil=>cases h
 |cons a l O =>
  grind[lB,jj]
theorem OU(l:List T):l.length*60<=jj l:=by
 induction l with
 |nil=>simp
 |cons t l O=>rw[jj,pj,length_cons];omega
theorem KH{n:Nat}(h:n<100000000000000000000):(gW n).length<=20:=GH 19 n aO
theorem wY{n:Int}(h : -9223372036854775808<=n/\n<=9223372036854775807):(po n).length<=21:=by
 grind[KH,length_cons,po]
theorem Gz(b:Bool)(x:ah):(uN b x).length<=x.length+2:=by
 grind[uN]
theorem yU:∀(x:List ah),(cQ x).length<=(x.map fun y=>y.length+2).sum
 |[]=>by simp[cQ]
 |y::r=>by
  simp[cQ,ah]
mutual
def rY:T->Prop
 |.mk n l=>(-9223372036854775808<=n.n/\n.n<=9223372036854775807)/\ri l
def ri:List T->Prop
 |[]=>True
 |t::r=>rY t/\ri r
end
def qP(t:T):rY t↔(-9223372036854775808<=t.n.n/\t.n.n<=9223372036854775807)/\ri t.aw:=by cases t;rfl
theorem kT{l:List T}{t:T}(h:ri l)(M:t∈l):rY t:=by
 induction l with
 |nil=>cases M
 |cons a l O =>
  grind[ri]
theorem vw:∀(N:Nat)(t:T),be t<=N->rY t->(eh t).length+4<=lB t:=by
 intro N
 induction N with
 |zero=>grind[fa]
 |succ N Q =>
  intro t C c;rw[fa]at C;rw[qP]at c
  have O:∀a∈t.aw,(eh a).length+4<=lB a:=fun a v=>by
   refine Q a ?_ (kT c.2 v)
   have:∀(l:List T),a∈l->be a<=aP l:=by
    intro l
    induction l with
    |nil=>simp
    |cons b l z =>
     grind[be,aP]
   grind
  have w:((jk t.aw).map fun y=>y.length+2).sum<=jj t.aw:=by
   have:∀(l:List T),(∀a∈l,(eh a).length+4<=lB a)->((jk l).map fun y=>y.length+2).sum<=jj l:=by
    intro l
    induction l with
    |nil=>intro _;simp[jk]
    |cons a l z =>
     intro h;have o:=h a (mem_cons_self)
     have d:=z fun b i=>h b (eQ _ i)
     rw[jk,jj,List.map_cons,List.sum_cons];omega
   grind
  have q:((jk t.aw).getD 0 []).length<=jj t.aw:=by
   cases M:t.aw with
   |nil=>simp[jk]
   |cons a r =>
    grind[jk]
  have X:∀a b r,t.aw=a::b::r->((jk t.aw).getD 0 []).length+((jk t.aw).getD 1 []).length+8<=jj t.aw:=fun a b r M=>by
   have o:=O a ze2;have d:=O b ze2;rw[M,jk,jk,jj,jj];grind
  rw[MU,pj];unfold vu
  grind[wY,bp,length_cons,length_nil,yU,Gz]
def yz(own:ah)(n:Nd)(k:Nat)(x b:List ah):ah :=
 if n.aj=13 then((([118,97,114,32]++n.s)++[32,61,32])++x.getD 0 [])++[59]
 else if n.aj=7 then((n.s++[32,61,32])++x.getD 0 [])++[59]
 else if n.aj=8 then((((n.s++[91])++x.getD 0 [])++[93,32,61,32])++x.getD 1 [])++[59]
 else if n.aj=9 then(if k=3 then((([105,102,32,40]++x.getD 0 [])++[41,32])++b.getD 1 [])++([32,101,108,115,101,32]++b.getD 2 [])else(([105,102,32,40]++x.getD 0 [])++[41,32])++b.getD 1 [])
 else if n.aj=10 then(([119,104,105,108,101,32,40]++x.getD 0 [])++[41,32])++b.getD 1 []
 else if n.aj=11 then([114,101,116,117,114,110,32]++x.getD 0 [])++[59]
 else if n.aj=12 then x.getD 0 []++[59]
 else own
section
variable(tx:T->ah)(inl:List ah->Nat->ah)
mutual
def lj:Nat->T->ah
 |d,.mk n l=>yz (tx (.mk n l)) n l.length (l.map tx) (p6 d l)
def p6:Nat->List T->List ah
 |_,[]=>[]
 |d,t::r=>nR d t::p6 d r
def nR:Nat->T->ah
 |d,.mk n l=>inl (xk (d+1) l) d
def xk:Nat->List T->List ah
 |_,[]=>[]
 |d,t::r=>lj d t::xk d r
end
end
section
variable(tx:T->ah)(inl:List ah->Nat->ah)(d:Nat)
def MO(t:T):lj tx inl d t=yz (tx t) t.n t.aw.length (t.aw.map tx) (p6 tx inl d t.aw):=by cases t;rw[lj];rfl
def Kn(t:T):nR tx inl d t=inl (xk tx inl (d+1) t.aw) d:=by cases t;rw[nR];rfl
def Gx(l:List T):p6 tx inl d l=l.map (nR tx inl d):=by
 induction l with
 |nil=>rfl
 |cons t l O=>rw[p6,O];rfl
def Ia(l:List T):xk tx inl d l=l.map (lj tx inl d):=by
 induction l with
 |nil=>rfl
 |cons t l O=>rw[xk,O];rfl
end
def rV(T:ah)(l:List ah):ah:=l.foldl (fun T s=>T++(s++[32])) T
def ig(l:List ah)(d:Nat):ah:=rV [123,32] l++[125]
def lk:List ah->Nat
 |[]=>0
 |s::l=>s.length+1+lk l
theorem sV(l:List ah):∀T,(rV T l).length=T.length+lk l:=by
 induction l with
 |nil=>intro T;simp[rV,lk]
 |cons s l O =>
  intro T;have:=O (T++(s++[32]));simp only[rV,List.foldl_cons,lk,bp,length_cons,length_nil]at this |-;omega
def E4(a b:List ah):lk (a++b)=lk a+lk b:=by
 induction a with
 |nil=>simp[lk]
 |cons s a O=>simp only[List.cons_append,lk,O];omega
def MR(l:List ah)(k:Nat):lk (l.take k)<=lk l:=by
 have:lk l=lk (l.take k)+lk (l.drop k):=by rw[<-E4,take_append_drop]
 omega
def Ku(T:ah)(l:List ah)(s:ah):rV T (l++[s])=rV T l++(s++[32]):=by simp[rV]
def SZ{l:List ah}{s:ah}(h:s∈l):s.length<=lk l:=by
 induction l with
 |nil=>cases h
 |cons a l O =>
  rw[lk]
  rcases lp h with rfl|h
  ·omega
  ·have:=O h;omega
def Ov{l:List ah}{d:Nat}{s:ah}(h:s∈l):s.length<=(ig l d).length:=by
 have o:=SZ h;have b:=sV l [123,32];unfold ig;rw[bp,b];omega
end Go.Im
