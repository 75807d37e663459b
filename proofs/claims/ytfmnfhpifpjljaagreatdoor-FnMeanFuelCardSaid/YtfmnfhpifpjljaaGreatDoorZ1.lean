/- Part 1 of proofs that are told in their last texts. -/
open List (getElem?_append getElem?_cons_zero getElem?_eq_none length_cons length_nil mem_cons_self mem_map tail_cons)
set_option linter.unusedVariables false
set_option linter.unusedSimpArgs false
set_option linter.defProp false
set_option maxRecDepth 100000
namespace Go
section
variable{A B:Prop}
def zaa(h:B)(s:PLift B->A:=by intro hQ;refine kZ ?_;refine GL.wk (Wk.freeze (i:=0) rfl rfl rfl (bj _)) ?_;refine GL.wk (Wk.freeze (i:=1) rfl rfl rfl (bj _)) ?_;refine GN (by simp only[pf,og];rfl) ?_;refine X ?_;exact hQ.1):A:=s ⟨h⟩
def zab(s:A:=by have d:=fj a;have i:=fj b;have I:=kW a;have c:=kW b;unfold dM;generalize bo a=x at *;generalize bo b=y at *;refine ah func341 ntmps341 ?_;refine D [] d ?_;refine D [] i ?_;refine D [] I ?_;refine D [] c ?_;exact ax):A:=s
def zac(s:A:=by refine ah func137 ntmps137 ?_;refine D [] j ?_;refine GL.borrow k (fun B K r w l d b=>oO (A:=[_,_,_]) (C:=[]) d b rfl rfl rfl) ?_;refine bq ?_;exact bY):A:=s
def zad(h:B)(s:PLift B->A:=by intro hQ;refine b9 ?_;refine X ?_;exact hQ.1):A:=s ⟨h⟩
def zae(s:A:=by refine ah func344 ntmps344 ?_;refine D [] O ?_;exact ax):A:=s
def zaf(s:A:=by generalize tok p 0=tk at *;refine aX (aI 0 45 (.a 45 (.q 46 .nil))) ?_;refine bA ?_;exact ja):A:=s
def zag(s:A:=by refine D [] o ?_;refine ct ?_;exact⟨by first|rfl|(rw[bs];rfl),rfl⟩):A:=s
def zah(h:B)(s:PLift B->A:=by intro hQ;refine X ?_;refine aB [0,1,5,6] z ?_;refine X ?_;refine aB [0,1,2,3,4,5,6] e ?_;refine X ?_;refine aB [0,1,5,6] A ?_;exact hQ.1):A:=s ⟨h⟩
def zai(s:A:=by exact⟨rfl,rfl⟩):A:=s
def zaj(s:A:=by refine X ?_;have o:=fi s q;rw[M]at o;refine D [] o ?_;exact ax):A:=s
def zal(s:A:=by have⟨⟨q,A,F,j,w⟩,l⟩:=t;have⟨z,v,I,W⟩:=fp H;simp only at z v I;subst z v I;obtain⟨x,rfl,hx⟩:=vW W;simp only[E.ok,a6]at S;rw[E.tree,wt]at r;simp only[gq,lim]at r;have o:=C x S.2 hx (by unfold lim;omega);have b:=(E.len a S.2).2;have i:(aR [x])[0]?=some (cT x):=bH rfl;rw[E.full];generalize a.full=y at *;simp only[cT,T.n,T.au]at |-;refine ah func322 ntmps322 ?_;refine aX (aI 0 8 (.a 8 (aI 9 3 .nil))) ?_;refine av ?_;refine aN [] o ?_;exact aC):A:=s
def zam(s:A:=by rw[t];exact⟨x,⟨_,_,Wk.bb aD,_,_,rfl,rfl,by omega,j,o,e⟩,by omega⟩):A:=s
def zan(s:A:=by have C:0<(aR t.au).length:=(bG i).1;have c:rS p F H al cl k { s with ay:=s.ay+1 }=[cv p F H { s with ay:=s.ay+1 },cP s,dJ H s,dC H s,fk H s,fM al cl k s,gX al cl k s]:=rfl;rw[c]at N;unfold rS at *;unfold tZ at O;unfold cT at i N |-;rw[G]at *;refine ah func177 ntmps177 ?_;refine aB [0,1,5,6] r ?_;refine X ?_;refine aX (aI 0 10 (.a 10 (.a 11 .nil))) ?_;refine av ?_;refine ql [0,1,2,3,4,5,6] N ?_;refine av ?_;refine ql [0,1,2,3,4,5,6] O ?_;refine av ?_;exact bY):A:=s
def zao(s:A:=by refine ah func298 ntmps298 ?_;refine zad ?_;refine D [] R ?_;refine D [] O ?_;refine D [] H ?_;exact c8):A:=s
def zap(h:B)(s:PLift B->A:=by intro hQ;refine bq ?_;refine X ?_;exact hQ.1):A:=s ⟨h⟩
def zaq(s:A:=by refine ah func298 ntmps298 ?_;refine zad ?_;refine D [] R ?_;refine zad ?_;refine D [] E ?_;refine D [] O ?_;exact c8):A:=s
def zar(h:B)(s:PLift B->A:=by intro hQ;refine D [0] M ?_;refine D [0] m ?_;refine D [0] A ?_;refine D [0] J ?_;refine D [0] N ?_;exact hQ.1):A:=s ⟨h⟩
def zas(s:A:=by simp only[List.map_cons,map_nil,getD_cons_zero,getD_cons_succ,bl,length_cons,length_nil]at e |-;have E:=r b (by rw[m];simp) Z;generalize w a=x at *;generalize nT w inl d b=y at *;clear r j ih;generalize dd [a,b]=u at *;refine ef func245 ntmps245 ?_;refine zaa ?_;refine aX (.q 0 (aI 4 8 (.a 1 (.q 2 (.q 3 (.a 12 (.q 13 (.q 14 .nil)))))))) ?_;refine av ?_;refine oH [] s ?_;refine av ?_;refine aN [] E ?_;exact aC):A:=s
def zat(s:A:=by have⟨⟨q,A,F,i,w⟩,l⟩:=t;have⟨z,v,I,d⟩:=fp H;simp only at z v I;subst z v I;obtain⟨N,rfl,m⟩:=vW d;simp only[S.ok]at c;rw[S.tree,wt]at r;simp only[gq,lim]at r;have W:=qx b (a:=a) c (by unfold lim;omega) N m;have s:=kr b a c;have J:(aR [N])[0]?=some (cT N):=bH rfl;rw[S.bT];generalize a.out b=R at *;simp only[cT,T.n,T.au];refine ah func203 ntmps203 ?_;refine D [] W ?_;exact ax):A:=s
def zau(s:A:=by rw[S.tk]at H;obtain⟨t,r,rfl,z,_⟩:=map_cons H;exact⟨t,r,rfl,fun rest=>by rw[sP z];decide⟩):A:=s
def zav(h:B)(s:PLift B->A:=by intro hQ;refine av ?_;refine OQ rfl (V.gi 7 rfl rfl rfl j o) ?_;refine kO ?_;refine av ?_;exact hQ.1):A:=s ⟨h⟩
def zaw(s:A:=by refine X ?_;exact⟨_,_,Wk.bb aD,gY.next ⟨c,p,_,_,_,_,C,rfl,rfl,G,u,F,e,o⟩⟩):A:=s
def zax(s:A:=by have⟨E,F,j⟩:=j _ _ e;refine ah func169 ntmps169 ?_;refine D [0] N ?_;refine D [0] C ?_;refine D [0] O ?_;refine aX (aI 0 24 .nil) ?_;refine bA ?_;refine D [0] Q ?_;refine D [0] (kg b.next 7 b.next.place) ?_;refine D [0] E ?_;refine GL.lz 2 rfl rfl rfl rfl rfl rfl rfl rfl aM nR ?_;intro a c;refine cV ?_;refine X ?_;refine D [0] F ?_;refine lO ?_;exact j _ _ _ m):A:=s
def zay(h:B)(s:PLift B->A:=by intro hQ;refine aB [0,1,2,3,4,5,6] N ?_;exact hQ.1):A:=s ⟨h⟩
def zaz(h:B)(s:PLift B->A:=by intro hQ;refine D [0] (di p 0 I aS) ?_;refine D [0] (cY p.next [40] o aS) ?_;refine D [0] (xv (d+1) _ e B n Z F) ?_;refine D [0] (cY B [41] m aS) ?_;refine aX (aI 0 4 (.a 4 (.a 5 (.q 6 .nil)))) ?_;refine av ?_;exact hQ.1):A:=s ⟨h⟩
def zaA(s:A:=by refine ah func139 ntmps139 ?_;refine D [] m ?_;exact ax):A:=s
def zaB(s:A:=by refine ah func36 ntmps36 ?_;refine D [0] z ?_;refine D [0] I ?_;exact ax):A:=s
def zaC(s:A:=by have e:=gk code 8 b G u;have H:=eD code b (n:=8) Z;generalize bD code 8 b=a at *;have⟨j,t⟩:=a;simp only at e H |-;obtain⟨m,rfl⟩:∃m:Nat,j=(m:Int):=⟨j.toNat,by omega⟩;have W:=re (l:=yi) (m:=m) (by show m<8;omega);refine ah func174 ntmps174 ?_;refine D [0] z ?_;refine zad ?_;refine D [0] e ?_;exact ax):A:=s
def zaD(s:A:=by simp only[bl,length_cons,length_nil];omega):A:=s
def zaE(h:B)(s:PLift B->A:=by intro hQ;refine X ?_;refine aX (aI 0 7 (.a 7 (aI 8 4 (.q 13 (.q 16 (.a 12 (.q 14 (.q 15 (.a 17 (.q 18 (.a 19 (.q 20 .nil)))))))))))) ?_;exact hQ.1):A:=s ⟨h⟩
def zaF(s:A:=by grind[S.bT,S.tree,gq,bl,length_cons,length_nil,bT,wt,tree]):A:=s
def zaG(s:A:=by exact⟨_,_,r,⟨z,rfl,T⟩,.pass (x:=.inLoop c) rfl (fun _ _=>.inl (by simp)) A⟩):A:=s
def zaH(h:B)(s:PLift B->A:=by intro hQ;refine zap ?_;refine GL.q (V.td rfl) ?_;refine zap ?_;refine GL.q (V.Ff (b:=32) rfl rfl aS) ?_;refine bq ?_;refine GL.q (V.BC rfl Z) ?_;exact hQ.1):A:=s ⟨h⟩
def zaI(h:B)(s:PLift B->A:=by intro hQ;refine c6 ?_;refine av ?_;exact hQ.1):A:=s ⟨h⟩
def zaJ(h:B)(s:PLift B->A:=by intro hQ;refine aB [0,1,5,6] r ?_;refine X ?_;exact hQ.1):A:=s ⟨h⟩
def zaK(s:A:=by rw[ae i]at h;simp only[Option.some.injEq,Prod.mk.injEq]at h;obtain⟨rfl,rfl⟩:=h;exact⟨0,fun _=>rfl,B (zh (t:=.mk n (bn b l ls)) d o (jP i r1))⟩):A:=s
def zaL(h:B)(s:PLift B->A:=by intro hQ;refine aX (aI 0 10 .nil) ?_;refine bA ?_;exact hQ.1):A:=s ⟨h⟩
def zaM(s:A:=by refine X ?_;refine aB [0,1,5,6] J ?_;exact bY):A:=s
def zaN(h:B)(s:PLift B->A:=by intro hQ;refine aB [0,1,2,3,4,5,6] O ?_;exact hQ.1):A:=s ⟨h⟩
def zaO(h:B)(s:PLift B->A:=by intro hQ;refine D [0] ht ?_;refine D [0] m ?_;refine D [0] W ?_;refine D [0] I ?_;exact hQ.1):A:=s ⟨h⟩
def zaP(s:A:=by rw[<-A]at I |-;simp only[execOp,eqGuard,h,k,binOp,Op.intBits];exact congrArg (fun z:Int=>Result.ok (Next.value (Value.int .u32 z)) w) I):A:=s
def zaQ(s:A:=by exact⟨_,gU,rfl,rfl⟩):A:=s
def zaR(h:B)(s:PLift B->A:=by intro hQ;refine dA ?_;refine X ?_;exact hQ.1):A:=s ⟨h⟩
def zaS(s:A:=by unfold iy at w r;generalize S.dX (E.out b) [123,32] p++[125]=j at *;simp only[cT,T.n,T.au];refine ah func203 ntmps203 ?_;refine aX (aI 0 5 (aI 8 5 (.a 5 (.q 6 (.q 7 (.a 13 (.q 14 (.q 15 .nil)))))))) ?_;refine av ?_;refine aN [] d ?_;refine aN [] w ?_;exact aC):A:=s
def zaT(s:A:=by refine D [] d ?_;refine D [] i ?_;refine D [] I ?_;exact ax):A:=s
def zaU(h:B)(s:PLift B->A:=by intro hQ;refine D [] i ?_;refine D [] I ?_;refine D [] m ?_;refine D [] E ?_;refine D [] n ?_;exact hQ.1):A:=s ⟨h⟩
def zaV(s:A:=by have s:=j 0 a (by rw[m];rfl);rw[m]at e |-;rw[m]at s;simp only[List.map_cons,map_nil,getD_cons_zero,bl,length_cons,length_nil]at e |-;generalize w a=x at *;generalize dd [a]=u at *;refine ef func245 ntmps245 ?_;refine zaa ?_;refine oG [] s ?_;exact aC):A:=s
def zaW(s:A:=by refine GL.lz 2 rfl rfl rfl rfl rfl rfl rfl rfl aM nR ?_;intro a c;refine cV ?_;rw[m,o];refine X ?_;refine zad ?_;refine D [0] (fQ b [59] (hx { st with aw:=st.aw++[s] } { h with aG:=a,cG:=c }) d) ?_;refine eC ?_;exact⟨rfl,{ h with aG:=a,cG:=c },rfl⟩):A:=s
def zaX(s:A:=by refine D [] d ?_;refine D [] j ?_;refine GL.q (V.Kj rfl rfl M i) ?_;refine bq ?_;exact kC):A:=s
def zaY(s:A:=by refine aX (aI 0 7 (.a 7 (.a 8 (.a 9 (.q 10 .nil))))) ?_;refine av ?_;refine aN [0] o ?_;refine zaI ?_;refine aN [] e ?_;exact aC):A:=s
def zaZ(s:A:=by refine X ?_;exact⟨rfl,rfl,_,_,Wk.bb aD,rfl,rfl,by rw[N,W];rfl⟩):A:=s
def za1(h:B)(s:PLift B->A:=by intro hQ;refine cy ?_;refine av ?_;exact hQ.1):A:=s ⟨h⟩
def za2(h:B)(s:PLift B->A:=by intro hQ;refine X ?_;refine aX (aI 0 10 (.a 10 (.q 11 (.q 12 .nil)))) ?_;exact hQ.1):A:=s ⟨h⟩
def za3(s:A:=by obtain⟨g,rfl,o,j⟩:=pB z;rw[iS,u,ae A.code,ab F,ab I,ab Q,ab B,H g j];grind):A:=s
def za4(h:B)(s:PLift B->A:=by intro hQ;rw[rs,ab aK];simp only;rw[ab (by rw[j];decide),ae (.inl j),tail_cons,k2];exact hQ.1):A:=s ⟨h⟩
def za5(s:A:=by unfold mS at *;unfold du at *;refine ah func176 ntmps176 ?_;refine zaL ?_;refine aB [0,1,2,3,4,5,6] o ?_;exact aC):A:=s
def za6(h:B)(s:PLift B->A:=by intro hQ;refine X ?_;refine aX (aI 0 8 (.a 8 (.q 9 (.q 10 .nil)))) ?_;refine av ?_;refine cw [] hA ?_;exact hQ.1):A:=s ⟨h⟩
def za7(s:A:=by rw[ae hx]at h;have⟨y,u,d,h⟩:=br h;simp only[Option.some.injEq,Prod.mk.injEq]at h;obtain⟨rfl,rfl⟩:=h;exact ST Z (sR i I j (fun h=>absurd h e) fun E=>.inl ⟨hx,y,abq 1 _ _ _ y g Z (lA Z) z E d⟩)):A:=s
def za8(s:A:=by exact eW (J a) fun v t H=>eH (fun _=>⟨_,_,rfl,H⟩) fun _=>⟨_,_,rfl,H⟩):A:=s
def zba(s:A:=by refine WL.val (v:=.slice (some ⟨w.heap.size,0,none⟩) n n) (w':=w') (by simp[execOp,S,hr]) ?_;exact h _ _ B K _ w' _ hm C ((hF.mono (c7.refl K) (iL (by rw[hI.out _ (a8 _)];trivial))).put (some I) (.v _))):A:=s
def zbb(s:A:=by refine D [0] I ?_;refine zad ?_;refine D [0] hw ?_;refine D [0] u ?_;refine ma ?_;refine X ?_;refine zad ?_;refine D [0] w ?_;refine D [0] F ?_;refine et ?_;refine X ?_;refine GL.wk (Wk.iC (t:=108) rfl rfl rfl rfl) ?_;refine cV ?_;refine D [] n ?_;exact ax):A:=s
def zbc(h:B)(s:PLift B->A:=by intro hQ;refine aX (aI 0 7 (.a 7 (.q 8 .nil))) ?_;refine av ?_;exact hQ.1):A:=s ⟨h⟩
def zbd(h:B)(s:PLift B->A:=by intro hQ;refine cV ?_;refine X ?_;exact hQ.1):A:=s ⟨h⟩
def zbe(s:A:=by refine av ?_;exact aC):A:=s
def zbf(h:B)(s:PLift B->A:=by intro hQ;refine aX (aI 0 13 (.a 13 (.q 14 .nil))) ?_;refine av ?_;refine aN [] o ?_;refine X ?_;refine aB [0,1,2,3,4,5,6] B ?_;refine X ?_;exact hQ.1):A:=s ⟨h⟩
def zbg(s:A:=by refine zap ?_;refine GL.q (V.Dz rfl) ?_;refine bq ?_;refine GL.q (V.D3 rfl (fc _)) ?_;refine bq ?_;exact aC):A:=s
def zbh(h:B)(s:PLift B->A:=by intro hQ;simp only[cons_append,nil_append];refine X ?_;exact hQ.1):A:=s ⟨h⟩
def zbi(h:B)(s:PLift B->A:=by intro hQ;refine aX (aI 0 21 (.a 21 (aI 22 13 (.a 35 (.q 36 (.q 37 .nil)))))) ?_;exact hQ.1):A:=s ⟨h⟩
def zbj(h:B)(s:PLift B->A:=by intro hQ;refine X ?_;refine aX (aI 0 4 (.a 4 (.q 5 (.q 6 (.a 7 .nil))))) ?_;refine av ?_;refine mr [0] I ?_;simp only[gw];refine zav ?_;exact hQ.1):A:=s ⟨h⟩
def zbk(s:A:=by refine D [] h ?_;exact ax):A:=s
def zbl(s:A:=by refine ah func139 ntmps139 ?_;refine D [] m ?_;refine D [] i ?_;exact ax):A:=s
def zbm(s:A:=by rw[ae hx]at h;have⟨y,z,B,h⟩:=br h;simp only[Option.some.injEq,Prod.mk.injEq]at h;obtain⟨rfl,rfl⟩:=h;exact Aa (t:=.mk n (bn b l ls)) E o J e9 N A hx vd (abn _ _ _ g Z r2 r3 e B).2.2):A:=s
def zbn(s:A:=by rw[S];refine ah func235 ntmps235 ?_;refine zaJ ?_;refine zay ?_;refine X ?_;refine D [] O ?_;exact ax):A:=s
def zbo(s:A:=by refine ah func298 ntmps298 ?_;refine D [] O ?_;exact c8):A:=s
def zbp(s:A:=by simp only[bB]at h;exact fo (a:=0) (b:=0) aK (z _ _) (fun v t y u=>eG abp (fun h=>by grind[Dq])) h):A:=s
def zbq(s:A:=by refine aX (aI 0 33 (.a 33 (.q 34 (.q 35 .nil)))) ?_;refine av ?_;exact bx ⟨_,_,Wk.bb aD,rfl,rfl⟩):A:=s
def zbr(s:A:=by rw[ae rfl];have e:=w b u;have O:=mG code d b;generalize iG code d b=a at *;have⟨s,t⟩:=a;simp only at e O |-;refine ah func174 ntmps174 ?_;refine D [0] z ?_;refine D [0] e ?_;exact ax):A:=s
def zbs(s:A:=by exact ea (z _ _ e d) (q _ _ d) (fun w u C _=>ch C) (oB _) fun v t y u h=>(aW (Rl:=mw F') (j _) h).1):A:=s
def zbt(h:B)(s:PLift B->A:=by intro hQ;unfold gB kG ly eh;rw[ab (show ¬(T.mk n l).n.s=_ from A),ab (show ¬(T.mk n l).n.s=_ from C),ab (show ¬(T.mk n l).n.s=_ from d)];show(match p.az.findIdx? (fun f:Go.Sp.Fn=>f.name==n.s)with|none=>_|some i=>_)=_;rw[hx];exact hQ.1):A:=s ⟨h⟩
def zbu(s:A:=by exact⟨_,_,Wk.bb aD,rfl,rfl,fun j x y h=>by omega⟩):A:=s
def zbv(s:A:=by rw[show(st.az.map qA).length+[qA (s,b)].length=(st.az++[(s,b)]).length by simp,<-wq qA st.az (s,b)];refine bA ?_;refine eC ?_;exact⟨rfl,{ h with aT:=a3,cT:=c3,aF:=a4,cF:=c4 },rfl⟩):A:=s
def zbw(h:B)(s:PLift B->A:=by intro hQ;refine X ?_;refine aX (aI 0 6 (.q 7 (.q 10 (.a 6 (.q 8 (.q 9 (.a 11 (.a 12 (.q 13 .nil))))))))) ?_;refine av ?_;refine cw [] jZ ?_;refine cw [0] (di p 0 R aS) ?_;refine cw [] (jO (levels.getD k []) (p.aH 0) (BR k G)) ?_;exact hQ.1):A:=s ⟨h⟩
def zbx(s:A:=by exact .inr ⟨x,rfl,v.tr (y:=.error x) w⟩):A:=s
def zby(s:A:=by refine D [0] (cY o [59] j aS) ?_;refine zad ?_;refine D [] (iJ 12 at_ [] [e] _ oZ) ?_;exact eQ):A:=s
def zbz(s:A:=by have⟨r,n,T⟩:=List.mem_flatten.1 (bR W);exact(c r n).2 g T):A:=s
def zbA(s:A:=by unfold gZ at j;unfold mS at *;unfold du at *;refine ah func232 ntmps232 ?_;refine zaN ?_;refine X ?_;refine aB [0,1,5,6] J ?_;refine X ?_;refine aB [0,1,2,3,4,5,6] j ?_;exact bY):A:=s
def zbB(h:B)(s:PLift B->A:=by intro hQ;refine GL.PR rfl rfl rfl rfl rfl rfl rfl ?_;refine zap ?_;refine aX (aI 0 7 (.a 7 (.a 8 (.a 9 (.q 10 (.q 11 (.a 12 .nil))))))) ?_;refine av ?_;refine OA rfl rfl ?_;refine GL.V0 (n:=m) rfl ⟨by omega,by omega⟩ ?_;exact hQ.1):A:=s ⟨h⟩
def zbC(s:A:=by rw[ae m]at h;simp only[Option.some.injEq,Prod.mk.injEq]at h;obtain⟨rfl,rfl⟩:=h;exact Ab (t:=.mk (eg b n ls) (bn b l ls)) E o J (xe.trans e7) i A (zO (jP m r1) _ _ _)):A:=s
def zbD(h:B)(s:PLift B->A:=by intro hQ;refine et ?_;refine X ?_;exact hQ.1):A:=s ⟨h⟩
def zbE(s:A:=by refine X ?_;refine GL.lz 0 rfl rfl rfl rfl rfl rfl rfl rfl aM nR ?_;intro I S;refine zbd ?_;exact⟨rfl,rfl,_,_,(Wk.cut (n:=2) (bj _) rfl).trans (Wk.bb aD),I,S,_,_,rfl,rfl,by simp[Q],N.symm⟩):A:=s
def zbF(h:B)(s:PLift B->A:=by intro hQ;refine cy ?_;refine bA ?_;exact hQ.1):A:=s ⟨h⟩
def zbG(h:B)(s:PLift B->A:=by intro hQ;refine dQ ?_;refine X ?_;exact hQ.1):A:=s ⟨h⟩
def zbH(s:A:=by refine⟨one (if is p 0 gb=true then 9 else 10) (tok p 0).at_ [] [c,b],q2,fun g z=>?_,by grind,N⟩;obtain⟨g,rfl,o,j⟩:=pB z;rw[iS,u,ae A.code,ab F,ae I,H g j];grind):A:=s
def zbI(s:A:=by rw[ab (fun h=>h rfl)];exact zae):A:=s
def zbJ(s:A:=by refine ah func374 ntmps374 ?_;refine D [0] c ?_;refine aX (aI 0 17 .nil) ?_;refine bA ?_;refine D [0] (j0 b e) ?_;refine D [0] (kg b 7 b.place) ?_;refine oI ?_;exact zaQ):A:=s
def zbK(s:A:=by exact this.trans (de (this.ok R) _)):A:=s
def zbL(s:A:=by have⟨z,_⟩:=fp H;simp only[T.n,z,nN];rfl):A:=s
def zbM(s:A:=by rw[ae e]at h;simp only[Option.some.injEq,Prod.mk.injEq]at h;obtain⟨rfl,rfl⟩:=h;exact ST Z (ri i (.inl O) j (fun _=>rfl) fun h=>absurd h (by grind))):A:=s
def zbN(s:A:=by refine jC cZ dN ?_;refine bA ?_;exact⟨_,_,Wk.bb aD,gY.put { x with s:=sg } hx rfl (by show sg.length<=_;omega) (e.ak x (bR hx)) (fun _=>rfl) E u F e o⟩):A:=s
def zbO(s:A:=by refine D [] o ?_;exact ax):A:=s
def zbP(s:A:=by unfold cT at W c;unfold cT at i N |-;rw[G];refine ah func177 ntmps177 ?_;refine zaJ ?_;refine zay ?_;refine X ?_;refine aB [0,1,2,3,4,5,6] c ?_;exact bY):A:=s
def zbQ(s:A:=by grind[Value.ownBlock]):A:=s
def zbR(s:A:=by refine GL.lz 1 rfl rfl rfl rfl rfl rfl rfl rfl aM nR ?_;intro o q;refine zbd ?_;exact⟨rfl,rfl,_,_,Wk.bb aD,o,q,_,_,_,rfl,rfl,by simp[d],e.symm⟩):A:=s
def zbS(s:A:=by rw[ae e]at h;simp only[Option.some.injEq,Prod.mk.injEq]at h;obtain⟨rfl,rfl⟩:=h;exact ST Z (sR i I j (fun _=>rfl) fun h=>absurd h (by grind))):A:=s
def zbT(h:B)(s:PLift B->A:=by intro hQ;refine X ?_;refine D [] i ?_;exact hQ.1):A:=s ⟨h⟩
def zbU(h:B)(s:PLift B->A:=by intro hQ;refine aX (aI 0 3 (.a 3 (.a 4 (.a 5 (.q 6 (.a 7 .nil)))))) ?_;refine av ?_;exact hQ.1):A:=s ⟨h⟩
def zbW(s:A:=by refine D [0] i ?_;refine zbD ?_;exact⟨(g,s++[a],k),⟨_,_,Wk.bb aD,_,_,rfl,rfl,by simp[Q],by rw[vo,E],by show n+1+g<=f+1;omega,w,h⟩,by simp⟩):A:=s
def zbX(s:A:=by simp only[Option.some.injEq,Prod.mk.injEq,true_and]at h;subst h;unfold mS at *;unfold du at *;refine X ?_;refine aB [0,1,2,3,4,5,6] Q ?_;exact zaM):A:=s
def zbY(s:A:=by exact this.trans (bX (this.ok c) aE)):A:=s
def zbZ(s:A:=by simp only[bB]at h;exact fo (a:=0) (b:=0) aK (z _ _) (fun v t y u=>eG abp (eG abp (fo (a:=0) (b:=0) aK (z _ _) (fun v t y u=>eG abp abp)))) h):A:=s
def zb0(s:A:=by refine ah func232 ntmps232 ?_;refine zay ?_;exact zaM):A:=s
def zb1(s:A:=by refine ah func304 ntmps304 ?_;refine aB [0,1,2,3,4,5,6] Q ?_;refine X ?_;refine aB [0,1,2,3,4,5,6] I ?_;refine X ?_;refine D [] R ?_;exact ax):A:=s
def zb2(s:A:=by simp only[bB]at h;exact da m (A _ _) (fun v t y u=>bK (aW (z _)) (bK (aW (z _)) (da m (A _ _) (fun v t y u=>bK (aW (z _)) (aW (z _)))))) h):A:=s
def zb3(s:A:=by rw[m]at q;refine X ?_;refine jW [] q ?_;refine X ?_;exact⟨rfl,rfl,_,_,(Wk.cut (n:=0) (a8 _) rfl).trans (Wk.bb aD),rfl,rfl,nk i z s m⟩):A:=s
def zb4(s:A:=by rw[E.bT,E.full,E.tree,wt];simp only[gq,bl,length_cons,length_nil];omega):A:=s
def zb5(s:A:=by simp only[S.ok,a6]at h;have v:=E.ig c h.1;have I:=lU c;have d:=S.uY b h.2;rw[S.tree,dU,dB,dB,dB,v,d];simp[cL,own,T.n,T.au,b0];exact I):A:=s
def zb6(s:A:=by refine ah func200 ntmps200 ?_;refine D [] O ?_;refine D [] H ?_;exact ax):A:=s
def zb7(h:B)(s:PLift B->A:=by intro hQ;refine D [] d ?_;refine D [] i ?_;exact hQ.1):A:=s ⟨h⟩
def zb8(h:B)(s:PLift B->A:=by intro hQ;refine GL.q (V.td rfl) ?_;refine zaH ?_;refine zap ?_;exact hQ.1):A:=s ⟨h⟩
def zb9(s:A:=by exact⟨rfl,rfl,_,_,Wk.bb aD,rfl,rfl⟩):A:=s
def zca(s:A:=by rw[F]at M;refine ah func198 ntmps198 ?_;refine D [] d ?_;refine D [] E ?_;refine D [] T ?_;refine D [] M ?_;refine kV ?_;exact zai):A:=s
def zcb(s:A:=by have Q:decide (0<c)=true:=decide_eq_true Z;rw[ae N];refine ah func344 ntmps344 ?_;refine D [] O ?_;refine D [0,1] i ?_;exact ax):A:=s
def zcc(s:A:=by exact ea (z _ _ e d) (q _ _ d) (fun w u C _=>eb (ch C) (ch C)) (eo _ _) fun v t y u h=>(bK (Rl:=mw F') (aW (j _)) (aW (j _)) h).1):A:=s
def zcd(s:A:=by exact⟨E.kd a,E.kc a,trivial⟩):A:=s
def zce(s:A:=by rw[A,ej]at W;rw[mj W];exact aC):A:=s
def zcf(s:A:=by refine kZ ?_;refine GL.wk (Wk.freeze (i:=1) rfl rfl rfl (bj _)) ?_;refine GN (by simp only[pf,og];rfl) ?_;refine X ?_;exact zbk):A:=s
def zcg(s:A:=by refine D [0] E ?_;exact ax):A:=s
def zch(h:B)(s:PLift B->A:=by intro hQ;refine aX (aI 0 7 (.a 7 (.a 8 (.q 9 (.q 10 (.a 11 .nil)))))) ?_;refine av ?_;refine zaI ?_;exact hQ.1):A:=s ⟨h⟩
def zci(s:A:=by exact⟨1,⟨_,_,Wk.bb aD,rfl,rfl,by omega,N 1 rfl H⟩,by omega⟩):A:=s
def zcj(s:A:=by simp[execOp,Instr.sliceAt,Instr.slice,Instr.sliceBounds,Instr.sliceBound,asIntOf,N,r,run_underlying H.und,fw H.siz,u,T,I,q,n8]):A:=s
def zck(h:B)(s:PLift B->A:=by intro hQ;rw[rs,ab aK];simp only;rw[ab (c _ aE),ab (fun h=>h.elim (c _ aE) (c _ aE)),ab (c _ aE)];exact hQ.1):A:=s ⟨h⟩
def zcl(s:A:=by rw[S.tk]at H;obtain⟨t,r,rfl,z,_⟩:=map_cons H;have⟨z,_⟩:=qw z;exact⟨t,r,rfl,fun rest=>⟨jQ z aE,jQ z aE⟩⟩):A:=s
def zcm(h:B)(s:PLift B->A:=by intro hQ;refine zad ?_;refine D [0] hw ?_;exact hQ.1):A:=s ⟨h⟩
def zcn(s:A:=by refine X ?_;refine zbD ?_;exact⟨rfl,rfl,_,_,(Wk.cut (n:=3) (dT rfl) rfl).trans (Wk.bb aD),_,_,rfl,rfl,by simp[c],b.symm⟩):A:=s
def zco(h:B)(s:PLift B->A:=by intro hQ;show GF prog 234 [.loc 0 0,.loc 5 0,.agg (tZ (eg b n ls) (eg b n ls).n),.v (ii x')] _ _ _;exact hQ.1):A:=s ⟨h⟩
def zcp(h:B)(s:PLift B->A:=by intro hQ;refine X ?_;refine D [] l ?_;exact hQ.1):A:=s ⟨h⟩
def zcq(s:A:=by simp only;obtain⟨g,rfl⟩:∃g',g=g'+1:=⟨g-1,by omega⟩;rw[qg,ab (by rw[mq (cD.err n)];decide),iK (cD.err n) aE]):A:=s
def zcr(s:A:=by refine ah func230 ntmps230 ?_;refine zay ?_;refine zah ?_;exact aC):A:=s
def zcs(s:A:=by refine zbd ?_;refine nd ?_;exact oj (n:=7) rfl dY rfl (bj _) rfl rfl ⟨rfl,_,_,_,_,_,_,_,_,_,_,_,_,_,_,_,_,_,_,_,_,rfl⟩):A:=s
def zct(s:A:=by refine X ?_;refine D [] r ?_;exact ax):A:=s
def zcu(s:A:=by refine zbD ?_;exact⟨rfl,rfl,_,_,Wk.bb aD,_,_,_,rfl,rfl,by simp[e],b.symm⟩):A:=s
def zcv(s:A:=by refine bq ?_;exact aC):A:=s
def zcw(s:A:=by refine bq ?_;refine D [] I ?_;exact ax):A:=s
def zcx(s:A:=by refine D [] e ?_;exact ax):A:=s
def zcy(s:A:=by refine X ?_;refine D [] q ?_;exact⟨rfl,rfl,_,_,(Wk.cut (n:=0) (dT rfl) rfl).trans (Wk.bb aD),_,rfl,rfl,by rw[B,o]⟩):A:=s
def zcz(s:A:=by refine bA ?_;exact⟨rfl,rfl,_,_,Wk.bb aD,rfl,rfl,nk i z t m⟩):A:=s
def zcA(s:A:=by refine ah func235 ntmps235 ?_;refine aB [0,1,5,6] r ?_;exact aC):A:=s
def zcC(s:A:=by refine X ?_;have o:=gm (.mk ⟨5,a,0,s,ks⟩ l) 1 W;exact zbO):A:=s
def zcD(h:B)(s:PLift B->A:=by intro hQ;refine D [] Et ?_;refine aB [2,3,1,4,5] hC ?_;refine X ?_;refine D [2,3] S ?_;refine GL.wk (Wk.nZ (i:=2) (o:=12) (j:=1) rfl rfl rfl rfl) ?_;refine cV ?_;exact hQ.1):A:=s ⟨h⟩
def zcE(s:A:=by refine GL.wk (Wk.uy (i:=2) (o:=5) rfl rfl rfl rfl G) ?_;refine cV ?_;refine D [0] (cY p [125] e aS) ?_;exact eQ):A:=s
def zcF(h:B)(s:PLift B->A:=by intro hQ;refine zad ?_;refine D [0] G ?_;refine aX (aI 0 6 (.a 6 (.a 7 (.a 8 (.q 9 (.q 10 (.a 11 .nil))))))) ?_;refine av ?_;refine aN [0] A ?_;refine zaI ?_;exact hQ.1):A:=s ⟨h⟩
def zcG(h:B)(s:PLift B->A:=by intro hQ;refine aB [0,1,2,3,4,5,6] o ?_;refine X ?_;exact hQ.1):A:=s ⟨h⟩
def zcH(s:A:=by exact this.trans (z _ _ _ _ (this.ok R) h)):A:=s
def zcI(s:A:=by simp only[S.ok]at h;have v:=E.ig a h;have I:=lU a;rw[S.tree,dU,dB,dB,v];simp[cL,own,T.n,T.au,b0];exact I):A:=s
def zcJ(s:A:=by refine D [] d ?_;refine D [] j ?_;exact c8):A:=s
def zcK(s:A:=by subst j;refine X ?_;refine aX (aI 0 8 (.a 8 (.q 9 (.q 10 .nil)))) ?_;refine bA ?_;refine D [0] E ?_;exact ja):A:=s
def zcL(s:A:=by exact⟨fun t r h=>(by cases h),fun _ h=>(by cases h)⟩):A:=s
def zcM(s:A:=by refine X ?_;exact⟨rfl,rfl,_,_,(Wk.cut (n:=1) (bj _) rfl).trans (Wk.bb aD),rfl,rfl,by rw[N,W,r];rfl⟩):A:=s
def zcN(s:A:=by exact h B K _ k _ N C ((j.mono (c7.refl K) (iL (by rw[R.out _ (a8 _)];trivial))).put d (.loc _ 0 b bV))):A:=s
def zcO(h:B)(s:PLift B->A:=by intro hQ;refine aX (aI 0 10 (.a 10 (.a 11 .nil))) ?_;refine bA ?_;exact hQ.1):A:=s ⟨h⟩
def zcP(s:A:=by refine ah func198 ntmps198 ?_;refine D [] d ?_;refine D [] E ?_;refine D [] w ?_;refine kV ?_;exact zai):A:=s
def zcQ(s:A:=by rw[N]at h;simp only[Option.some.injEq,Prod.mk.injEq]at h;exact .inr ⟨a,r,rfl,h.1.symm,h.2.symm⟩):A:=s
def zcR(s:A:=by simp only[S.ok,a6]at h;have r:=uX b h.2 d;rw[S.tree,ln,List.map_cons,kx c h.1,qs,qs,qs,r,S.bT];rfl):A:=s
def zcS(s:A:=by rw[eU]at c |-;rw[bl]at c |-;rw[<-nE];exact v.app c):A:=s
def zcT(s:A:=by refine ah func228 ntmps228 ?_;refine D [] O ?_;exact ax):A:=s
def zcU(s:A:=by rw[ae (.inr (by simpa using hz))]at j;subst j;refine za6 ?_;refine X ?_;refine D [0] E ?_;exact ja):A:=s
def zcV(s:A:=by have⟨T,F⟩:=a;simp only at e j o u E;refine X ?_;refine D [0] G ?_;refine D [0] u ?_;exact zam):A:=s
def zcW(s:A:=by exact ea (z _ _ A m) (q _ _ m) (fun v t e _=>ch e) (oB _) fun v t y u h=>(aW (Rl:=mw F') (j _) h).1):A:=s
def zcX(s:A:=by rw[E.tree,gA,fK,fK];exact⟨fun h=>absurd h (by simp),fun h=>absurd h (by simp),E.wf a,trivial⟩):A:=s
def zcY(h:B)(s:PLift B->A:=by intro hQ;refine X ?_;refine aX (aI 0 9 .nil) ?_;exact hQ.1):A:=s ⟨h⟩
def zcZ(s:A:=by rw[N]at h;simp only[Option.some.injEq,Prod.mk.injEq]at h;exact .inl ⟨rfl,h.1.symm,h.2.symm⟩):A:=s
def zc0(s:A:=by rw[ab (by rintro(h|h);(· cases h);(· simp at hz;omega))]at j;subst j;refine za6 ?_;exact iF):A:=s
def zc1(h:B)(s:PLift B->A:=by intro hQ;unfold b8;show((n.aj==4&&n.s==eh)&&_)=false;exact hQ.1):A:=s ⟨h⟩
def zc2(s:A:=by simp[mx,E.z,trivial,zT,S.tree]):A:=s
def zc3(s:A:=by refine ah func106 ntmps106 ?_;exact eP):A:=s
def zc4(h:B)(s:PLift B->A:=by intro hQ;refine ma ?_;refine X ?_;exact hQ.1):A:=s ⟨h⟩
def zc5(s:A:=by refine ah func304 ntmps304 ?_;refine zay ?_;exact aC):A:=s
def zc6(h:B)(s:PLift B->A:=by intro hQ;refine X ?_;refine D [] J ?_;exact hQ.1):A:=s ⟨h⟩
def zc7(s:A:=by refine dQ ?_;exact aC):A:=s
def zc8(s:A:=by refine aX (aI 0 10 .nil) ?_;exact zbe):A:=s
def zc9(s:A:=by refine ah func236 ntmps236 ?_;refine ct ?_;exact⟨congrArg (fun b=>GV.v (.bool b)) W,rfl⟩):A:=s
def zda(s:A:=by unfold cT at i N |-;rw[G];refine ah func177 ntmps177 ?_;refine zaJ ?_;refine zay ?_;exact bY):A:=s
def zdb(s:A:=by unfold cT at i O |-;rw[G];refine ah func177 ntmps177 ?_;refine zaJ ?_;refine zaN ?_;exact bY):A:=s
def zdc(h:B)(s:PLift B->A:=by intro hQ;refine aX (aI 0 24 .nil) ?_;refine bA ?_;refine D [0] (j0 p R) ?_;refine D [0] (kg p 7 p.place) ?_;refine ct ?_;rw[RS.name,ae o,H];exact hQ.1):A:=s ⟨h⟩
def zdd(s:A:=by exact⟨rfl,rfl,_,_,(Wk.cut (n:=0) (a8 _) rfl).trans (Wk.bb aD),rfl,rfl,by simpa using s⟩):A:=s
def zde(s:A:=by generalize tok p 0=tk at *;refine X ?_;refine zcm ?_;refine zad ?_;refine D [] w ?_;exact ax):A:=s
def zdf(s:A:=by refine OA rfl rfl ?_;refine GL.vE rfl rfl rfl aM rfl rfl rfl rfl ?_;refine za1 ?_;exact bY):A:=s
def zdg(s:A:=by refine ah func230 ntmps230 ?_;refine zaN ?_;refine X ?_;refine aB [0,1,5,6] z ?_;exact zct):A:=s
def zdh(s:A:=by refine D [] M ?_;exact ax):A:=s
def zdi(s:A:=by rw[all_eq_false];exact⟨x,bR hx,by simp[r]⟩):A:=s
def zdj(s:A:=by refine D [0] u ?_;refine zad ?_;refine D [0] w ?_;refine zad ?_;refine D [] n ?_;exact ax):A:=s
def zdk(s:A:=by unfold la at this;simp only[a6,Bool.not_eq_true',decide_eq_false_iff_not]at this;omega):A:=s
def zdl(h:B)(s:PLift B->A:=by intro hQ;refine GL.q (V.V1 rfl rfl) ?_;refine bq ?_;refine GL.q (V.Up rfl rfl) ?_;refine zap ?_;refine aX (aI 0 13 .nil) ?_;refine av ?_;exact hQ.1):A:=s ⟨h⟩
def zdm(s:A:=by exact ux f _ _ _ _ (fun k d o e=>by cases e) h I):A:=s
def zdn(s:A:=by rw[A]at C;rw[ab (by rw[A];simp)]at d;subst d;refine X ?_;refine D [] C ?_;exact ja):A:=s
def zdo(s:A:=by refine GL.wk (Wk.iC (t:=108) rfl rfl rfl rfl) ?_;refine cV ?_;refine D [] n ?_;exact ax):A:=s
def zdp(s:A:=by refine zbG ?_;refine nd ?_;exact oj (n:=1) rfl dY rfl (dT rfl) rfl rfl ⟨_,rfl,rfl⟩):A:=s
def zdq(s:A:=by refine zbD ?_;exact⟨rfl,rfl,_,_,Wk.bb aD,_,_,rfl,rfl,by simp[O],N.symm,by omega⟩):A:=s
def zdr(h:B)(s:PLift B->A:=by intro hQ;refine zar ?_;refine D [0] S ?_;refine D [0] hn ?_;refine D [0] h5 ?_;exact hQ.1):A:=s ⟨h⟩
def zds(s:A:=by rw[S.tree,jK,eO,eO];simp_all[pL,E.sx,trivial]):A:=s
def zdt(s:A:=by exact .inl ⟨rfl,rfl,rfl,by simp,fun k hk _=>Below.heap_alloc _ _ _ (by simp_all)⟩):A:=s
def zdv(s:A:=by simp only[Option.some.injEq,Prod.mk.injEq]at h;obtain⟨rfl,rfl⟩:=h;exact ST Z B):A:=s
def zdw(h:B)(s:PLift B->A:=by intro hQ;refine X ?_;refine D [] H ?_;refine D [] o ?_;refine aX (aI 0 5 (.a 5 (.q 6 (.q 7 .nil)))) ?_;refine av ?_;refine aN [] R ?_;exact hQ.1):A:=s ⟨h⟩
def zdx(h:B)(s:PLift B->A:=by intro hQ;rw[rs,ab aK];simp only;exact hQ.1):A:=s ⟨h⟩
def zdy(h:B)(s:PLift B->A:=by intro hQ;refine X ?_;refine ct ?_;exact hQ.1):A:=s ⟨h⟩
def zdz(s:A:=by refine za2 ?_;refine av ?_;refine cw [] hG ?_;refine X ?_;refine D [0] I ?_;exact ja):A:=s
def zdA(h:B)(s:PLift B->A:=by intro hQ;unfold cC;refine X ?_;refine aX (aI 0 6 (.a 6 .nil)) ?_;refine av ?_;exact hQ.1):A:=s ⟨h⟩
def zdB(s:A:=by refine eC ?_;exact⟨rfl,h,rfl⟩):A:=s
def zdC(s:A:=by rw[this];exact⟨fun r=>(by cases r),fun _=>⟨_,sc fun f=>by rw[rs,ae aK]⟩⟩):A:=s
def zdD(s:A:=by refine ah func207 ntmps207 ?_;refine zbc ?_;refine aN [] j ?_;refine X ?_;exact zcg):A:=s
def zdE(s:A:=by unfold mS at *;unfold du at *;refine ah func232 ntmps232 ?_;refine zaN ?_;exact zaM):A:=s
def zdF(h:B)(s:PLift B->A:=by intro hQ;refine X ?_;refine aB [0,1,2,3,4,5,6] Q ?_;refine X ?_;refine aB [0,1,5,6] J ?_;refine X ?_;refine aB [0,1,2,3,4,5,6] e ?_;exact hQ.1):A:=s ⟨h⟩
def zdG(s:A:=by refine aX (aI 0 6 (.a 6 (aI 7 3 .nil))) ?_;refine av ?_;refine aN [] q ?_;exact aC):A:=s
def zdH(h:B)(s:PLift B->A:=by intro hQ;refine aX (.q 1 (.q 2 (.a 0 (.a 3 .nil)))) ?_;refine av ?_;refine aN [] wj ?_;refine aN [] d ?_;refine X ?_;refine lr ?_;exact hQ.1):A:=s ⟨h⟩
def zdI(s:A:=by rw[N];refine ah func260 ntmps260 ?_;exact ax):A:=s
def zdJ(s:A:=by refine⟨_,fun d ty pos af=>?_,.v _⟩;simp[execOp,eqGuard,k.fC hx,k.fC n,this]):A:=s
def zdK(s:A:=by exact eW (E b t H) fun v t H=>eH (fun _=>⟨_,_,rfl,H⟩) fun _=>⟨_,_,rfl,H⟩):A:=s
def zdL(s:A:=by refine nd ?_;exact oj (n:=6) rfl dY rfl (bj _) rfl rfl ⟨rfl,H,I.leave u,rfl⟩):A:=s
def zdM(s:A:=by simpa using this):A:=s
def zdN(h:B)(s:PLift B->A:=by intro hQ;refine D [0] (cY _ [61] A aS) ?_;refine D [0] (xv (d+1) _ e o z Z m) ?_;refine D [0] (cY o [59] j aS) ?_;refine zad ?_;exact hQ.1):A:=s ⟨h⟩
def zdO(h:B)(s:PLift B->A:=by intro hQ;refine X ?_;refine D [] w ?_;exact hQ.1):A:=s ⟨h⟩
def zdP(h:B)(s:PLift B->A:=by intro hQ;simp only[cons_append,nil_append];exact hQ.1):A:=s ⟨h⟩
def zdQ(h:B)(s:PLift B->A:=by intro hQ;refine X ?_;refine aB [0,1,2,3,4,5,6] hv ?_;refine X ?_;refine GL.lz 8 (n:=k) rfl rfl rfl rfl rfl rfl rfl rfl HL nR ?_;exact hQ.1):A:=s ⟨h⟩
def zdR(s:A:=by simp[fK,E.wf,trivial,gA,S.tree]):A:=s
def zdS(h:B)(s:PLift B->A:=by intro hQ;simp only[Bool.false_eq_true,if_false];exact hQ.1):A:=s ⟨h⟩
def zdT(h:B)(s:PLift B->A:=by intro hQ;refine av ?_;refine zaI ?_;exact hQ.1):A:=s ⟨h⟩
def zdU(s:A:=by refine dQ ?_;exact⟨_,_,Wk.bb aD,q,p,_,_,_,_,ns,rfl,rfl,⟨r,n,o,t⟩,m,b⟩):A:=s
def zdV(s:A:=by obtain⟨g,rfl,c⟩:=nb c;rw[iE,l,ae j.code,ab v,ab (by grind),ae w,E g aK]):A:=s
def zdW(s:A:=by simp only[S.ok,a6]at h;rw[S.tree,ln,List.map_cons,kx a h.2,S.bT];simp[zb]):A:=s
def zdX(s:A:=by rw[S.ok,a6]at h;rw[S.tree,jK,eO,eO,eO,jK];simp_all[pL,E.sx,S.De,trivial]):A:=s
def zdY(s:A:=by rw[S.tree,kR];exact⟨E.kd c,E.kc c,rfl,by rw[kR];exact S.AG b,trivial⟩):A:=s
def zdZ(s:A:=by exact⟨_,_,by rw[bB],a8 _⟩):A:=s
def zd0(s:A:=by grind[Option.some.injEq,Prod.mk.injEq,zi]):A:=s
def zd1(s:A:=by grind[Option.some.injEq,Prod.mk.injEq,zj]):A:=s
def zd2(s:A:=by obtain⟨g,rfl,o,j⟩:=pB z;rw[iS,u,ae A.code,ab F,ab I,ab Q,ae B,H g j]):A:=s
def zd3(s:A:=by simp only[bB]at h;exact fo (a:=0) (b:=0) aK (z _ _) (fun v t y u=>abp) h):A:=s
def zd4(s:A:=by refine oI ?_;exact zaQ):A:=s
def zd5(s:A:=by refine mu ?_;exact zaQ):A:=s
def zd6(h:B)(s:PLift B->A:=by intro hQ;refine X ?_;refine nd ?_;exact hQ.1):A:=s ⟨h⟩
def zd7(s:A:=by generalize c.fail 23 n.at_=N at *;refine ah func207 ntmps207 ?_;exact zcg):A:=s
def zd8(s:A:=by unfold rS;refine ah func177 ntmps177 ?_;refine aB [0,1,5,6] r ?_;exact bY):A:=s
def zea(s:A:=by simp only[S.ok]at h;rw[S.tree,ln,List.map_cons,kx a h,S.bT];simp[zb]):A:=s
def zeb(s:A:=by refine ah func139 ntmps139 ?_;refine D [] m ?_;refine D [] Q ?_;exact ax):A:=s
def zed(s:A:=by rw[E.tree,gA];exact⟨fun h=>absurd h (by simp),fun _=>rfl,trivial⟩):A:=s
def zee(s:A:=by rw[ab (by rintro(h|h);(· cases h);(· simp at E;omega))];exact zbl):A:=s
def zef(h:B)(s:PLift B->A:=by intro hQ;refine bq ?_;simp only[nil_append,length_nil,gW];refine X ?_;exact hQ.1):A:=s ⟨h⟩
def zeg(s:A:=by refine dQ ?_;exact⟨_,_,Wk.bb aD,a,z,n,b,d,rfl,rfl,C,e,by omega,E⟩):A:=s
def zeh(s:A:=by grind[mS,one,RS.place,RS.ba]):A:=s
def zei(s:A:=by grind[dB,cL,own,T.n,T.au,b0,dU,E.tree]):A:=s
def zej(s:A:=by grind[dB,cL,own,T.n,T.au,b0,dU,S.tree]):A:=s
def zek(s:A:=by rw[m]at h;cases h):A:=s
def zel(h:B)(s:PLift B->A:=by intro hQ;refine X ?_;refine D [] F ?_;refine D [] d ?_;refine D [] r ?_;refine D [2] b ?_;refine aX (aI 0 17 .nil) ?_;exact hQ.1):A:=s ⟨h⟩
def zem(h:B)(s:PLift B->A:=by intro hQ;refine zdx ?_;rw[ab (u _ (by simp)),ab (fun h=>h.elim (u _ (by simp)) (u _ (by simp))),ab (u _ (by simp))];exact hQ.1):A:=s ⟨h⟩
def zen(h:B)(s:PLift B->A:=by intro hQ;refine GL.wk (Wk.iC (t:=57) rfl rfl rfl rfl) ?_;refine cV ?_;exact hQ.1):A:=s ⟨h⟩
def zeo(s:A:=by exact⟨0,⟨_,_,Wk.bb aD,rfl,rfl,by omega,N 0 rfl H⟩,by omega⟩):A:=s
def zep(s:A:=by simp only[bl,length_singleton,bE,jH,List.map_cons,List.map_nil];rfl):A:=s
def zeq(s:A:=by refine zb7 ?_;refine GL.q (V.Wq rfl rfl M) ?_;refine bq ?_;exact kC):A:=s
def zer(s:A:=by refine ah func259 ntmps259 ?_;exact ax):A:=s
def zes(s:A:=by refine ah func135 ntmps135 ?_;exact ax):A:=s
def zet(s:A:=by refine ah func230 ntmps230 ?_;refine zaN ?_;refine zah ?_;exact zct):A:=s
def zeu(s:A:=by refine D [0,1] e ?_;exact ax):A:=s
def zev(s:A:=by exact JK (k:=0) (q:=0) (h:=(0,0)) z A d Q o 0 (.inl ⟨rfl,rfl⟩)):A:=s
def zew(s:A:=by have Q:decide (0<c)=false:=decide_eq_false Z;rw[ab Z];exact zae):A:=s
def zex(s:A:=by refine⟨?_,?_⟩<;>omega):A:=s
def zey(s:A:=by simp[fK,E.wf,S.Dj,trivial,gA,S.tree]):A:=s
def zez(s:A:=by have⟨r,n,T⟩:=List.mem_flatten.1 (bR W);exact(e r n).2 g T):A:=s
def zeA(s:A:=by simp only[bB]at h;exact da m (A _ _) (fun v t y u=>aW (z _)) h):A:=s
def zeB(s:A:=by simp only[bB]at h;rw[R.n32]at e;exact bW (Q:=Iv) ⟨e,j⟩ h):A:=s
def zeC(s:A:=by grind[List.map_congr_left,Nat.mod_lt,Array.getElem?_eq_getElem]):A:=s
def zeD(h:B)(s:PLift B->A:=by intro hQ;refine aX (aI 0 12 (.a 12 (aI 13 3 .nil))) ?_;refine av ?_;exact hQ.1):A:=s ⟨h⟩
def zeE(h:B)(s:PLift B->A:=by intro hQ;refine X ?_;refine D [] E ?_;exact hQ.1):A:=s ⟨h⟩
def zeF(s:A:=by simp[mx,E.z,S.zs,trivial,zT,S.tree]):A:=s
def zeG(s:A:=by exact⟨pL (by simp) (by simp) (by simp),E.sx a h.2,trivial⟩):A:=s
def zeH(s:A:=by rw[IntKind.wrap_i64];omega):A:=s
def zeI(s:A:=by rw[ae (by simpa using i)];exact zac):A:=s
def zeJ(s:A:=by rw[ab (by simpa using i)];exact zac):A:=s
def zeK(h:B)(s:PLift B->A:=by intro hQ;rw[show(lE st.aJ).length+[[qT t]].length=(st.aJ++[t]).length by simp[nM],<-vo st.aJ t];refine bA ?_;exact hQ.1):A:=s ⟨h⟩
def zeL(s:A:=by refine zbG ?_;refine kV ?_;exact zai):A:=s
def zeM(s:A:=by refine za1 ?_;refine bx ?_;exact⟨_,_,Wk.bb aD,r,w,rfl,rfl⟩):A:=s
def zeN(h:B)(s:PLift B->A:=by intro hQ;refine D [] O ?_;refine aX (aI 0 8 (.a 8 (.a 9 .nil))) ?_;exact hQ.1):A:=s ⟨h⟩
def zeO(s:A:=by subst d;refine X ?_;refine D [] C ?_;refine D [] O ?_;exact ja):A:=s
def zeP(h:B)(s:PLift B->A:=by intro hQ;refine zaE ?_;refine av ?_;refine cw [0] m ?_;refine cw [] tA ?_;refine cw [0] m ?_;refine cw [] c ?_;exact hQ.1):A:=s ⟨h⟩
def zeQ(h:B)(s:PLift B->A:=by intro hQ;refine zaJ ?_;refine zbc ?_;refine aN [] d ?_;refine X ?_;exact hQ.1):A:=s ⟨h⟩
def zeR(s:A:=by simp[E.tree,T.n]at I):A:=s
def zeS(s:A:=by refine X ?_;have o:=gm (.mk ⟨9,a,0,s,ks⟩ l) 1 b;exact zbO):A:=s
def zeT(s:A:=by rw[r]at h;rw[hit r];refine X ?_;refine oG [] h ?_;exact aC):A:=s
def zeU(s:A:=by exact o.tr (y:=.error x) u):A:=s
def zeV(s:A:=by obtain⟨g,rfl,c⟩:=nb c;rw[iE,l,ae j.code,ae v,E g aK,R]):A:=s
def zeW(s:A:=by exact G.tr (y:=.error x) E):A:=s
def zeX(s:A:=by refine aN [] o ?_;exact aC):A:=s
def zeY(s:A:=by refine D [0] H ?_;exact ax):A:=s
def zeZ(s:A:=by refine aN [] j ?_;exact lq):A:=s
def ze0(s:A:=by exact absurd I (by simp[one,T.n])):A:=s
def ze1(s:A:=by obtain⟨g,rfl,o,j⟩:=pB z;rw[iS,u,ae A.code,ae F,H g j]):A:=s
def ze2(s:A:=by rcases G with G|G<;>rw[G]at h<;>simp at h<;>omega):A:=s
def ze3(s:A:=by rw[j]at h;cases h):A:=s
def ze4(s:A:=by exact Aa (t:=.mk n (bn b l ls)) E o J e9 N A hx vd (u0 m _)):A:=s
def ze5(s:A:=by refine zaR ?_;exact⟨rfl,rfl,_,_,Wk.bb aD,b,c,rfl,rfl⟩):A:=s
def ze6(h:B)(s:PLift B->A:=by intro hQ;refine GL.lz 1 rfl rfl rfl rfl rfl rfl rfl rfl aM nR ?_;exact hQ.1):A:=s ⟨h⟩
def ze7(s:A:=by exact absurd i (Np _ _ _ (fun k d out h=>by cases h) _ _)):A:=s
def ze8(s:A:=by exact⟨by omega,by omega,by omega,fun x hx=>by grind⟩):A:=s
def ze9(s:A:=by exact⟨by grind,by grind,by grind,fun x hx=>by grind⟩):A:=s
def zfa(s:A:=by rw[E.tree,zT,mx,mx];exact⟨fun _=>rfl,E.z a,trivial⟩):A:=s
def zfb(s:A:=by simp only;omega):A:=s
def zfc(s:A:=by rw[m];refine cy ?_;simp only[gW];refine av ?_;exact za9):A:=s
def zfd(h:B)(s:PLift B->A:=by intro hQ;refine zc4 ?_;refine zad ?_;refine D [0] w ?_;refine D [0] F ?_;refine zbD ?_;refine D [0] rN ?_;exact hQ.1):A:=s ⟨h⟩
def zfe(s:A:=by have:=h.w;unfold dE wS at *;simp only[rj,cM]at *;omega):A:=s
def zff(h:B)(s:PLift B->A:=by intro hQ;refine aX (aI 0 33 (.a 33 (.q 34 (.q 35 .nil)))) ?_;refine av ?_;refine cw [0] (di b 1 c aS) ?_;exact hQ.1):A:=s ⟨h⟩
def zfg(s:A:=by rw[rM i z (p:=fun x y=>x==y) m];refine zcY ?_;exact zbe):A:=s
def zfh(s:A:=by repeat (first|exact cX.n|(apply cX.w;(· decide +kernel))|(apply cX.y;(· first|(apply YQ.t;(· exact rfl);(· exact rfl);(· (first|exact V.gi 7 rfl rfl rfl ((dm _ _ _ _).trans j) o|(first|exact fa|(apply K.idx;first|exact V.idxV rfl rfl rfl aM Z|exact V.a7 0 rfl rfl rfl aP|exact V.a7 1 rfl rfl rfl aP|exact V.a7 2 rfl rfl rfl aP|exact V.a7 3 rfl rfl rfl aP|exact V.a7 4 rfl rfl rfl aP|exact V.a7 5 rfl rfl rfl aP|exact V.a7 6 rfl rfl rfl aP)|exact fb|exact V.eZ 1 rfl rfl aM aM|exact V.mv|exact V.kj|(apply K.bin;first|exact V.go rfl|exact V.iZ rfl rfl Z|exact V.gR rfl rfl|exact V.gS rfl rfl|exact V.lV rfl rfl|exact V.lZ rfl rfl|exact V.cat rfl rfl Z|exact V.cat rfl rfl (by simp only[bl,length_cons,length_nil];omega)|exact V.ji rfl rfl Z|exact V.add rfl rfl Z|exact V.sub rfl rfl Z|exact V.mul rfl rfl Z|exact V.jU rfl rfl Z|exact V.quo rfl rfl Z|exact V.rem rfl rfl Z|exact V.gn rfl rfl)|exact eK|exact eJ|exact fJ|exact ei|exact eu|(apply K.idx;first|exact V.fR rfl rfl aV|exact V.cm rfl rfl aV rfl|exact V.cm rfl rfl aV Z|exact V.iI rfl rfl Z)|exact V.ext rfl rfl|exact V.go rfl|(apply K.mU;first|exact V.jT rfl rfl rfl Z|exact V.jS rfl rfl Z|exact V.jR rfl rfl Z|exact V.ft 1 rfl rfl rfl aM)|exact V.hY rfl rfl aV|exact V.idxSC rfl rfl aV rfl|exact ew|exact V.build rfl|exact V.neg rfl Z|exact V.hH rfl rfl|exact V.lf rfl (by first|rfl|exact IntWalk.i64_in _ Z|exact IntWalk.u8_in _ Z|assumption)|exact V.str rfl aM))))|(apply YQ.t;(· exact rfl);(· apply oh;(· exact rfl);(· first|exact rfl|assumption));(· (first|exact V.gi 7 rfl rfl rfl ((dm _ _ _ _).trans j) o|(first|exact fa|(apply K.idx;first|exact V.idxV rfl rfl rfl aM Z|exact V.a7 0 rfl rfl rfl aP|exact V.a7 1 rfl rfl rfl aP|exact V.a7 2 rfl rfl rfl aP|exact V.a7 3 rfl rfl rfl aP|exact V.a7 4 rfl rfl rfl aP|exact V.a7 5 rfl rfl rfl aP|exact V.a7 6 rfl rfl rfl aP)|exact fb|exact V.eZ 1 rfl rfl aM aM|exact V.mv|exact V.kj|(apply K.bin;first|exact V.go rfl|exact V.iZ rfl rfl Z|exact V.gR rfl rfl|exact V.gS rfl rfl|exact V.lV rfl rfl|exact V.lZ rfl rfl|exact V.cat rfl rfl Z|exact V.cat rfl rfl (by simp only[bl,length_cons,length_nil];omega)|exact V.ji rfl rfl Z|exact V.add rfl rfl Z|exact V.sub rfl rfl Z|exact V.mul rfl rfl Z|exact V.jU rfl rfl Z|exact V.quo rfl rfl Z|exact V.rem rfl rfl Z|exact V.gn rfl rfl)|exact eK|exact eJ|exact fJ|exact ei|exact eu|(apply K.idx;first|exact V.fR rfl rfl aV|exact V.cm rfl rfl aV rfl|exact V.cm rfl rfl aV Z|exact V.iI rfl rfl Z)|exact V.ext rfl rfl|exact V.go rfl|(apply K.mU;first|exact V.jT rfl rfl rfl Z|exact V.jS rfl rfl Z|exact V.jR rfl rfl Z|exact V.ft 1 rfl rfl rfl aM)|exact V.hY rfl rfl aV|exact V.idxSC rfl rfl aV rfl|exact ew|exact V.build rfl|exact V.neg rfl Z|exact V.hH rfl rfl|exact V.lf rfl (by first|rfl|exact IntWalk.i64_in _ Z|exact IntWalk.u8_in _ Z|assumption)|exact V.str rfl aM))))|(apply YQ.f;(· exact rfl);(· apply pg;(· exact rfl);(· first|exact rfl|assumption))))))):A:=s
def zfi(s:A:=by repeat (first|exact cX.n|(apply cX.w;(· decide +kernel))|(apply cX.y;(· first|(apply YQ.t;(· exact rfl);(· exact rfl);(· (first|exact V.gi 7 rfl rfl rfl j o|(first|exact fa|(apply K.idx;first|exact V.idxV rfl rfl rfl aM Z|exact V.a7 0 rfl rfl rfl aP|exact V.a7 1 rfl rfl rfl aP|exact V.a7 2 rfl rfl rfl aP|exact V.a7 3 rfl rfl rfl aP|exact V.a7 4 rfl rfl rfl aP|exact V.a7 5 rfl rfl rfl aP|exact V.a7 6 rfl rfl rfl aP)|exact fb|exact V.eZ 1 rfl rfl aM aM|exact V.mv|exact V.kj|(apply K.bin;first|exact V.go rfl|exact V.iZ rfl rfl Z|exact V.gR rfl rfl|exact V.gS rfl rfl|exact V.lV rfl rfl|exact V.lZ rfl rfl|exact V.cat rfl rfl Z|exact V.cat rfl rfl (by simp only[bl,length_cons,length_nil];omega)|exact V.ji rfl rfl Z|exact V.add rfl rfl Z|exact V.sub rfl rfl Z|exact V.mul rfl rfl Z|exact V.jU rfl rfl Z|exact V.quo rfl rfl Z|exact V.rem rfl rfl Z|exact V.gn rfl rfl)|exact eK|exact eJ|exact fJ|exact ei|exact eu|(apply K.idx;first|exact V.fR rfl rfl aV|exact V.cm rfl rfl aV rfl|exact V.cm rfl rfl aV Z|exact V.iI rfl rfl Z)|exact V.ext rfl rfl|exact V.go rfl|(apply K.mU;first|exact V.jT rfl rfl rfl Z|exact V.jS rfl rfl Z|exact V.jR rfl rfl Z|exact V.ft 1 rfl rfl rfl aM)|exact V.hY rfl rfl aV|exact V.idxSC rfl rfl aV rfl|exact ew|exact V.build rfl|exact V.neg rfl Z|exact V.hH rfl rfl|exact V.lf rfl (by first|rfl|exact IntWalk.i64_in _ Z|exact IntWalk.u8_in _ Z|assumption)|exact V.str rfl aM))))|(apply YQ.t;(· exact rfl);(· apply oh;(· exact rfl);(· first|exact rfl|assumption));(· (first|exact V.gi 7 rfl rfl rfl j o|(first|exact fa|(apply K.idx;first|exact V.idxV rfl rfl rfl aM Z|exact V.a7 0 rfl rfl rfl aP|exact V.a7 1 rfl rfl rfl aP|exact V.a7 2 rfl rfl rfl aP|exact V.a7 3 rfl rfl rfl aP|exact V.a7 4 rfl rfl rfl aP|exact V.a7 5 rfl rfl rfl aP|exact V.a7 6 rfl rfl rfl aP)|exact fb|exact V.eZ 1 rfl rfl aM aM|exact V.mv|exact V.kj|(apply K.bin;first|exact V.go rfl|exact V.iZ rfl rfl Z|exact V.gR rfl rfl|exact V.gS rfl rfl|exact V.lV rfl rfl|exact V.lZ rfl rfl|exact V.cat rfl rfl Z|exact V.cat rfl rfl (by simp only[bl,length_cons,length_nil];omega)|exact V.ji rfl rfl Z|exact V.add rfl rfl Z|exact V.sub rfl rfl Z|exact V.mul rfl rfl Z|exact V.jU rfl rfl Z|exact V.quo rfl rfl Z|exact V.rem rfl rfl Z|exact V.gn rfl rfl)|exact eK|exact eJ|exact fJ|exact ei|exact eu|(apply K.idx;first|exact V.fR rfl rfl aV|exact V.cm rfl rfl aV rfl|exact V.cm rfl rfl aV Z|exact V.iI rfl rfl Z)|exact V.ext rfl rfl|exact V.go rfl|(apply K.mU;first|exact V.jT rfl rfl rfl Z|exact V.jS rfl rfl Z|exact V.jR rfl rfl Z|exact V.ft 1 rfl rfl rfl aM)|exact V.hY rfl rfl aV|exact V.idxSC rfl rfl aV rfl|exact ew|exact V.build rfl|exact V.neg rfl Z|exact V.hH rfl rfl|exact V.lf rfl (by first|rfl|exact IntWalk.i64_in _ Z|exact IntWalk.u8_in _ Z|assumption)|exact V.str rfl aM))))|(apply YQ.f;(· exact rfl);(· apply pg;(· exact rfl);(· first|exact rfl|assumption))))))):A:=s
def zfj(s:A:=by repeat (first|exact cX.n|(apply cX.w;(· decide +kernel))|(apply cX.y;(· first|(apply YQ.t;(· exact rfl);(· exact rfl);(· (first|exact fa|(apply K.idx;first|exact V.idxV rfl rfl rfl aM Z|exact V.a7 0 rfl rfl rfl aP|exact V.a7 1 rfl rfl rfl aP|exact V.a7 2 rfl rfl rfl aP|exact V.a7 3 rfl rfl rfl aP|exact V.a7 4 rfl rfl rfl aP|exact V.a7 5 rfl rfl rfl aP|exact V.a7 6 rfl rfl rfl aP)|exact fb|exact V.eZ 1 rfl rfl aM aM|exact V.mv|exact V.kj|(apply K.bin;first|exact V.go rfl|exact V.iZ rfl rfl Z|exact V.gR rfl rfl|exact V.gS rfl rfl|exact V.lV rfl rfl|exact V.lZ rfl rfl|exact V.cat rfl rfl Z|exact V.cat rfl rfl (by simp only[bl,length_cons,length_nil];omega)|exact V.ji rfl rfl Z|exact V.add rfl rfl Z|exact V.sub rfl rfl Z|exact V.mul rfl rfl Z|exact V.jU rfl rfl Z|exact V.quo rfl rfl Z|exact V.rem rfl rfl Z|exact V.gn rfl rfl)|exact eK|exact eJ|exact fJ|exact ei|exact eu|(apply K.idx;first|exact V.fR rfl rfl aV|exact V.cm rfl rfl aV rfl|exact V.cm rfl rfl aV Z|exact V.iI rfl rfl Z)|exact V.ext rfl rfl|exact V.go rfl|(apply K.mU;first|exact V.jT rfl rfl rfl Z|exact V.jS rfl rfl Z|exact V.jR rfl rfl Z|exact V.ft 1 rfl rfl rfl aM)|exact V.hY rfl rfl aV|exact V.idxSC rfl rfl aV rfl|exact ew|exact V.build rfl|exact V.neg rfl Z|exact V.hH rfl rfl|exact V.lf rfl (by first|rfl|exact IntWalk.i64_in _ Z|exact IntWalk.u8_in _ Z|assumption)|exact V.str rfl aM)))|(apply YQ.t;(· exact rfl);(· apply oh;(· exact rfl);(· first|exact rfl|assumption));(· (first|exact fa|(apply K.idx;first|exact V.idxV rfl rfl rfl aM Z|exact V.a7 0 rfl rfl rfl aP|exact V.a7 1 rfl rfl rfl aP|exact V.a7 2 rfl rfl rfl aP|exact V.a7 3 rfl rfl rfl aP|exact V.a7 4 rfl rfl rfl aP|exact V.a7 5 rfl rfl rfl aP|exact V.a7 6 rfl rfl rfl aP)|exact fb|exact V.eZ 1 rfl rfl aM aM|exact V.mv|exact V.kj|(apply K.bin;first|exact V.go rfl|exact V.iZ rfl rfl Z|exact V.gR rfl rfl|exact V.gS rfl rfl|exact V.lV rfl rfl|exact V.lZ rfl rfl|exact V.cat rfl rfl Z|exact V.cat rfl rfl (by simp only[bl,length_cons,length_nil];omega)|exact V.ji rfl rfl Z|exact V.add rfl rfl Z|exact V.sub rfl rfl Z|exact V.mul rfl rfl Z|exact V.jU rfl rfl Z|exact V.quo rfl rfl Z|exact V.rem rfl rfl Z|exact V.gn rfl rfl)|exact eK|exact eJ|exact fJ|exact ei|exact eu|(apply K.idx;first|exact V.fR rfl rfl aV|exact V.cm rfl rfl aV rfl|exact V.cm rfl rfl aV Z|exact V.iI rfl rfl Z)|exact V.ext rfl rfl|exact V.go rfl|(apply K.mU;first|exact V.jT rfl rfl rfl Z|exact V.jS rfl rfl Z|exact V.jR rfl rfl Z|exact V.ft 1 rfl rfl rfl aM)|exact V.hY rfl rfl aV|exact V.idxSC rfl rfl aV rfl|exact ew|exact V.build rfl|exact V.neg rfl Z|exact V.hH rfl rfl|exact V.lf rfl (by first|rfl|exact IntWalk.i64_in _ Z|exact IntWalk.u8_in _ Z|assumption)|exact V.str rfl aM)))|(apply YQ.f;(· exact rfl);(· apply pg;(· exact rfl);(· first|exact rfl|assumption))))))):A:=s
def zfk(s:A:=by grind):A:=s
def zfl(s:A:=by show ¬(decide (a<0)=true);rw[ha];decide):A:=s
def zfm(s:A:=by simp):A:=s
def zfn(s:A:=by omega):A:=s
def zfo(s:A:=by first|rfl|exact IntWalk.i64_in _ Z|exact IntWalk.u8_in _ Z|assumption):A:=s
def zfp(s:A:=by simp only[bl,length_cons,length_nil];omega):A:=s
def zfq(s:A:=by unfold lim;omega):A:=s
def zfr(s:A:=by simpa using jI F 0 t rfl):A:=s
def zfs(s:A:=by simpa using h):A:=s
def zft(s:A:=by rw[List.mem_take_iff_getElem];exact⟨j,by omega,rfl⟩):A:=s
def zfu(s:A:=by cases h):A:=s
def zfv(s:A:=by simpa using z):A:=s
def zfw(s:A:=by grind[bU]):A:=s
def zfx(s:A:=by grind[kv,aZ]):A:=s
def zfy(s:A:=by rw[bI];omega):A:=s
def zfz(s:A:=by grind[maxLen]):A:=s
def zfA(s:A:=by grind[List.append_eq_nil_iff]):A:=s
def zfB(s:A:=by simp[execOp,resolve,invoke,builtin,hs,hx,N]):A:=s
def zfC(s:A:=by simpa using W):A:=s
def zfD(s:A:=by simpa using o):A:=s
def zfE(s:A:=by simpa using jI F 1 u rfl):A:=s
def zfF(s:A:=by rw[j];decide):A:=s
def zfG(s:A:=by rw[iX];omega):A:=s
def zfH(s:A:=by simpa using J):A:=s
def zfI(s:A:=by rw[m];rfl):A:=s
def zfJ(s:A:=by unfold lim cx;omega):A:=s
def zfK(s:A:=by rw[o];decide):A:=s
def zfL(s:A:=by grind[fN]):A:=s
def zfM(s:A:=by grind[fW]):A:=s
def zfN(s:A:=by grind[se]):A:=s
def zfO(s:A:=by grind[kz]):A:=s
def zfP(s:A:=by rw[B]):A:=s
def zfQ(s:A:=by rfl):A:=s
def zfR(s:A:=by simp[M]):A:=s
def zfS(s:A:=by rw[G]):A:=s
def zfT(s:A:=by grind[ev]):A:=s
def zfU(s:A:=by grind[bB]):A:=s
def zfV(s:A:=by grind[kb]):A:=s
def zfW(s:A:=by simp only[a6,beq_iff_eq];exact fun h=>E h.1.2):A:=s
def zfX(s:A:=by simp only[pf,og];rfl):A:=s
def zfY(s:A:=by simpa using v):A:=s
def zfZ(s:A:=by rw[bs];omega):A:=s
def zf0(s:A:=by simpa using Q):A:=s
def zf1(s:A:=by simpa using A):A:=s
def zf2(s:A:=by rw[J];decide):A:=s
def zf3(s:A:=by simp[rs]):A:=s
def zf4(s:A:=by unfold KF at j;omega):A:=s
def zf5(s:A:=by first|rfl|decide):A:=s
def zf6(s:A:=by show gN (bN fr w _) w=true;rw[zt];exact A):A:=s
def zf7(s:A:=by simp[M.fin,M.stop]):A:=s
def zf8(s:A:=by show(bn b l ls).length<=1048576;omega):A:=s
def zf9(s:A:=by grind[T.n]):A:=s
def zga(s:A:=by rw[C,O,<-Nat.add_mul,H];exact rF _ A):A:=s
def zgb(s:A:=by have:=hn.fresh;have:=h.ext.size;omega):A:=s
def zgc(s:A:=by rw[E,A];exact growslice_fits zfn zfn):A:=s
end
end Go
namespace Go
def aK{A:Prop}(s:A:=by omega):A:=s
def aE{A:Prop}(s:A:=by decide):A:=s
section
variable{C:Type _}
def bG{l:List C}{i:Nat}{a:C}(h:l[i]?=some a):∃(h:i<l.length),l[i]=a:=List.getElem?_eq_some_iff.1 h
def nj{a b:C}{l:List C}(h:a∈b::l):a=b\/a∈l:=List.mem_cons.1 h
def sb{a:C}{s t:List C}(h:a∈s++t):a∈s\/a∈t:=List.mem_append.1 h
def KE{a b:C}(h:a∈[b]):a=b:=List.mem_singleton.1 h
def oK{l:List C}{i:Nat}(h:l[i]?=none):l.length<=i:=List.getElem?_eq_none_iff.1 h
end
def ab:type_of% @if_neg:=@if_neg
def ae:type_of% @if_pos:=@if_pos
def a6:type_of% @Bool.and_eq_true:=@Bool.and_eq_true
theorem bR:type_of% @List.mem_of_getElem?:=@List.mem_of_getElem?
theorem bl:type_of% @List.length_append:=@List.length_append
def a8:type_of% @Nat.le_refl:=@Nat.le_refl
def b6:type_of% @List.getElem?_map:=@List.getElem?_map
def bj:type_of% @Nat.zero_le:=@Nat.zero_le
theorem cq:type_of% @List.getElem?_eq_getElem:=@List.getElem?_eq_getElem
theorem bI:type_of% @List.length_map:=@List.length_map
theorem ky:type_of% @List.eq_nil_of_length_eq_zero:=@List.eq_nil_of_length_eq_zero
theorem dI:type_of% @List.take_add_one:=@List.take_add_one
def dT:type_of% @Nat.le_of_ble_eq_true:=@Nat.le_of_ble_eq_true
def ej:type_of% @List.take_length:=@List.take_length
theorem eU:type_of% @List.append_assoc:=@List.append_assoc
def gW:type_of% @Nat.zero_add:=@Nat.zero_add
theorem ey:type_of% @List.mem_cons_of_mem:=@List.mem_cons_of_mem
theorem mb:type_of% @List.getElem?_append_right:=@List.getElem?_append_right
theorem iX:type_of% @List.length_take:=@List.length_take
def gw:type_of% @List.append_nil:=@List.append_nil
def n1:type_of% @List.getElem?_append_left:=@List.getElem?_append_left
def iY:type_of% @List.getElem?_set:=@List.getElem?_set
def rE:type_of% @List.length_zipWith:=@List.length_zipWith
def nE:type_of% @Nat.add_assoc:=@Nat.add_assoc
def uB:type_of% @Nat.sub_self:=@Nat.sub_self
def kP:type_of% @List.drop_eq_getElem_cons:=@List.drop_eq_getElem_cons
def mz:type_of% @List.take_of_length_le:=@List.take_of_length_le
theorem ju:type_of% @Nat.le_trans:=@Nat.le_trans
theorem n2:type_of% @List.length_drop:=@List.length_drop
def sA:type_of% @Option.some.inj:=@Option.some.inj
def jH:type_of% @List.map_append:=@List.map_append
theorem sB:type_of% @List.contains_iff_mem:=@List.contains_iff_mem
def pN:type_of% @of_decide_eq_true:=@of_decide_eq_true
def fL:type_of% @List.all_eq_true:=@List.all_eq_true
def eV:type_of% @Int.toNat_natCast:=@Int.toNat_natCast
def rF:type_of% @Nat.mul_le_mul_right:=@Nat.mul_le_mul_right
def Bf:type_of% @Nat.lt_of_lt_of_le:=@Nat.lt_of_lt_of_le
def yE:type_of% @mem_map:=@mem_map
theorem qJ:type_of% @List.any_eq_true:=@List.any_eq_true
end Go
namespace Go.Xp
abbrev ai:=List UInt8
structure Tok where
 aj:Int
 n:Int
 s:ai
 at_:Int
structure Nd where
 aj:Int
 at_:Int
 n:Int
 s:ai
 au:List Int
inductive T where
 |mk (n:Nd) (au:List T)
def T.n:T->Nd|.mk n _=>n
def T.au:T->List T|.mk _ k=>k
abbrev Er:=Int × Int
abbrev Rd(C:Type):=Except Er (C × List Tok)
def dL(t:Tok):ai:=if t.aj=3 then t.s else[]
def aH(ts:List Tok)(k:Nat):ai:=match ts[k]? with|some t=>dL t|none=>[]
def place(e:Int):List Tok->Int
 |t::_=>t.at_
 |[]=>e
def ba(e:Int)(s:ai)(ts:List Tok):Except Er (List Tok) :=
 if aH ts 0=s then .ok ts.tail else .error (7,place e ts)
def name(e:Int):List Tok->Rd ai
 |[]=>.error (7,e)
 |t::r=>if t.aj=2 then(if t.s.length>12 then .error (8,t.at_)else .ok (t.s,r))else .error (7,t.at_)
def one(S at_:Int)(s:ai)(au:List T):T:=.mk ⟨S,at_,0,s,[]⟩ au
def levels:List (List ai):=[[[124,124]],[[38,38]],[[61,61],[33,61],[60],[62],[60,61],[62,61]],[[124]],[[94]],[[38]],[[60,60],[62,62]],[[43],[45]],[[42],[47],[37]]]
def bC:Er:=(-1,-1)
inductive tS where
 |expr (aY:Nat)
 |level (k aY:Nat)
 |loop (k aY:Nat) (out:T)
 |operand (aY:Nat)
def rd(e:Int):Nat->tS->List Tok->Rd T
 |0,_,_=>.error bC
 |f+1,.expr aY,Q=>if aY>60 then .error (9,place e Q)else rd e f (.level 0 (aY+1)) Q
 |f+1,.level k aY,Q =>
  if k=9 then rd e f (.operand aY) Q
  else match rd e f (.level (k+1) aY) Q with
   |.error x=>.error x
   |.ok (out,Q)=>rd e f (.loop k aY out) Q
 |f+1,.loop k aY out,Q =>
  match Q with
  |[]=>.ok (out,Q)
  |t::r =>
   if t.aj=3/\t.s∈levels.getD k []then
    match rd e f (.level (k+1) aY) r with
    |.error x=>.error x
    |.ok (b,r)=>rd e f (.loop k aY (one 6 t.at_ t.s [out,b])) r
   else .ok (out,Q)
 |f+1,.operand aY,Q =>
  if aY>60 then .error (9,place e Q)
  else match Q with
  |[]=>.error (7,e)
  |t::r =>
   if t.aj=3 then
    if t.s=[45]\/t.s=[33]\/t.s=[126]then
     match rd e f (.operand (aY+1)) r with
     |.error x=>.error x
     |.ok (a,r)=>.ok (one 5 t.at_ t.s [a],r)
    else if t.s=[40]then
     match rd e f (.expr (aY+1)) r with
     |.error x=>.error x
     |.ok (a,r)=>match ba e [41] r with
      |.error x=>.error x
      |.ok r=>.ok (a,r)
    else .error (7,t.at_)
   else if t.aj=1 then .ok (.mk ⟨1,t.at_,t.n,[],[]⟩ [],r)
   else match name e Q with
    |.error x=>.error x
    |.ok (s,r) =>
     if aH r 0=[91]then
      match rd e f (.expr (aY+1)) r.tail with
      |.error x=>.error x
      |.ok (a,r)=>match ba e [93] r with
       |.error x=>.error x
       |.ok r=>.ok (one 3 t.at_ s [a],r)
     else if aH r 0=[40]then
      match args e f (aY+1) [] r.tail with
      |.error x=>.error x
      |.ok (l,r)=>.ok (one 4 t.at_ s l,r)
     else .ok (one 2 t.at_ s [],r)
where
 args (e:Int):Nat->Nat->List T->List Tok->Rd (List T)
  |0,_,_,_=>.error bC
  |f+1,aY,acc,ts =>
   if aH ts 0=[41]then .ok (acc,ts.tail)
   else match(if acc=[]then .ok ts else ba e [44] ts)with
    |.error x=>.error x
    |.ok ts=>match rd e f (.expr aY) ts with
     |.error x=>.error x
     |.ok (a,ts)=>args e f aY (acc++[a]) ts
def lX:ai:=[118,97,114]
def gb:ai:=[105,102]
def iz:ai:=[101,108,115,101]
def gz:ai:=[119,104,105,108,101]
def gK:ai:=[114,101,116,117,114,110]
def iV:ai:=[105,110,116]
def jm:ai:=[102,117,110,99]
inductive sV where
 |block (aY:Nat)
 |stmt (aY:Nat)
def nG(ts:List Tok):Nat:=20*ts.length+20
def expr(e:Int)(aY:Nat)(ts:List Tok):Rd T:=rd e (nG ts) (.expr aY) ts
def inner(e:Int)(aY:Nat)(a b:ai)(ts:List Tok):Rd T :=
 match ba e a ts with
 |.error x=>.error x
 |.ok ts=>match expr e aY ts with
  |.error x=>.error x
  |.ok (t,ts)=>match ba e b ts with
   |.error x=>.error x
   |.ok ts=>.ok (t,ts)
def l9(e:Int)(aY:Nat)(ts:List Tok):Rd (ai × T) :=
 match name e ts with
 |.error x=>.error x
 |.ok (s,ts)=>match inner e aY [61] [59] ts with
  |.error x=>.error x
  |.ok (t,ts)=>.ok ((s,t),ts)
def simple(e:Int)(aY:Nat)(ts:List Tok):Rd T :=
 match ts with
 |[]=>match expr e (aY+1) []with
  |.error x=>.error x
  |.ok _=>.error (7,e)
 |t::_ =>
  if t.aj=2/\aH ts 1=[61]then
   match l9 e (aY+1) ts with
   |.error x=>.error x
   |.ok ((s,a),ts)=>.ok (one 7 t.at_ s [a],ts)
  else match expr e (aY+1) ts with
   |.error x=>.error x
   |.ok (a,ts) =>
    if a.n.aj=3/\a.n.at_=t.at_/\aH ts 0=[61]then
     match inner e (aY+1) [61] [59] ts with
     |.error x=>.error x
     |.ok (v,ts)=>.ok (one 8 t.at_ a.n.s (a.au.take 1++[v]),ts)
    else match ba e [59] ts with
     |.error x=>.error x
     |.ok ts=>.ok (one 12 t.at_ [] [a],ts)
def rs(e:Int):Nat->sV->List Tok->Rd T
 |0,_,_=>.error bC
 |f+1,.block aY,Q =>
  if aY>60 then .error (9,place e Q)
  else match ba e [123] Q with
   |.error x=>.error x
   |.ok r=>match body e f (aY+1) [] r with
    |.error x=>.error x
    |.ok (l,r)=>.ok (one 14 (place e Q) [] l,r)
 |f+1,.stmt aY,Q =>
  if aY>60 then .error (9,place e Q)
  else
   let at_:=place e Q
   if aH Q 0=lX then
    match l9 e (aY+1) Q.tail with
    |.error x=>.error x
    |.ok ((s,a),Q)=>.ok (one 13 at_ s [a],Q)
   else if aH Q 0=gb\/aH Q 0=gz then
    match inner e (aY+1) [40] [41] Q.tail with
    |.error x=>.error x
    |.ok (c,r)=>match rs e f (.block (aY+1)) r with
     |.error x=>.error x
     |.ok (b,r) =>
      if aH Q 0=gb then
       if aH r 0=iz then
        match rs e f (.block (aY+1)) r.tail with
        |.error x=>.error x
        |.ok (W,r)=>.ok (one 9 at_ [] [c,b,W],r)
       else .ok (one 9 at_ [] [c,b],r)
      else .ok (one 10 at_ [] [c,b],r)
   else if aH Q 0=gK then
    match expr e (aY+1) Q.tail with
    |.error x=>.error x
    |.ok (a,Q)=>match ba e [59] Q with
     |.error x=>.error x
     |.ok Q=>.ok (one 11 at_ [] [a],Q)
   else simple e aY Q
where
 body (e:Int):Nat->Nat->List T->List Tok->Rd (List T)
  |0,_,_,_=>.error bC
  |f+1,aY,acc,ts =>
   if aH ts 0=[125]then .ok (acc,ts.tail)
   else match rs e f (.stmt aY) ts with
    |.error x=>.error x
    |.ok (a,ts)=>body e f aY (acc++[a]) ts
def block(e:Int)(aY:Nat)(ts:List Tok):Rd T:=rs e (nG ts) (.block aY) ts
structure Ar where
 name:ai
 size:Int
structure gM where
 name:ai
 params:List ai
 tree:T
end Go.Xp
namespace Go.Sp
open Go.Xp
structure RS where
 l:List Tok
 i:Nat
 e:Int
 code:Int
 at_:Int
def RS.ok(p:RS):Prop:=p.i<=p.l.length/\p.l.length<=1099511627776
def RS.place(p:RS):Int:=match p.l[p.i]? with|some t=>t.at_|none=>p.e
def RS.fail(p:RS)(c a:Int):RS:=if p.code=0 then⟨p.l,p.i,p.e,c,a⟩else p
def RS.aH(p:RS)(k:Nat):ai:=if p.code=0 then(match p.l[p.i+k]? with|some t=>dL t|none=>[])else[]
def RS.next(p:RS):RS:=⟨p.l,p.i+1,p.e,p.code,p.at_⟩
def RS.ba(p:RS)(s:ai):RS:=if p.aH 0=s then p.next else p.fail 7 p.place
def RS.name(p:RS):ai × RS :=
 if p.code=0 then match p.l[p.i]? with
  |some t=>if t.aj=2 then(if t.s.length>12 then([],p.fail 8 t.at_)else(t.s,p.next))else([],p.fail 7 p.place)
  |none=>([],p.fail 7 p.place)
 else([],p)
def RS.aY(p:RS)(d:Nat):RS:=if d>60 then p.fail 9 p.place else p
def T.zero:T:=.mk ⟨0,0,0,[],[]⟩ []
inductive J where
 |expr (d:Nat)
 |level (k d:Nat)
 |loop (k d:Nat) (out:T)
 |operand (d:Nat)
 |named (at_:Int) (s:ai) (d:Nat)
mutual
def mE:Nat->J->RS->Option (T × RS)
 |0,_,_=>none
 |f+1,.expr d,p=>mE f (.level 0 d) (p.aY d)
 |f+1,.level k d,p =>
  if k=9 then mE f (.operand (d+1)) p
  else match mE f (.level (k+1) d) p with
   |none=>none
   |some (out,p)=>mE f (.loop k d out) p
 |f+1,.loop k d out,p =>
  if p.code=0/\(levels.getD k []).contains (p.aH 0)=true then
   match p.l[p.i]? with
   |none=>none
   |some t=>match mE f (.level (k+1) d) p.next with
    |none=>none
    |some (b,p)=>mE f (.loop k d (one 6 t.at_ t.s [out,b])) p
  else some (out,p)
 |f+1,.operand d,p =>
  let p:=p.aY d
  if p.code=0 then match p.l[p.i]? with
   |none=>some (T.zero,p.fail 7 p.place)
   |some t =>
    if t.aj=1 then some (.mk ⟨1,t.at_,t.n,[],[]⟩ [],p.next)
    else if t.aj=2 then mE f (.named t.at_ p.name.1 d) p.name.2
    else if t.s=[45]\/t.s=[33]\/t.s=[126]then match mE f (.operand (d+1)) p.next with
     |none=>none
     |some (a,p)=>some (one 5 t.at_ t.s [a],p)
    else if t.s=[40]then match mE f (.expr (d+1)) p.next with
     |none=>none
     |some (a,p)=>some (a,p.ba [41])
    else some (T.zero,p.fail 7 t.at_)
  else some (T.zero,p.fail 7 p.place)
 |f+1,.named at_ s d,p =>
  if p.aH 0=[91]then match mE f (.expr (d+1)) p.next with
   |none=>none
   |some (a,p)=>some (one 3 at_ s [a],p.ba [93])
  else if p.aH 0=[40]then match mL f (d+1) p.next with
   |none=>none
   |some (l,p)=>some (one 4 at_ s l,p)
  else some (one 2 at_ s [],p)
def mL:Nat->Nat->RS->Option (List T × RS)
 |0,_,_=>none
 |f+1,d,p=>if p.aH 0=[41]then some ([],p.ba [41])else match mE f (.expr d) p with
  |none=>none
  |some (a,p)=>qg f d [a] p
def qg:Nat->Nat->List T->RS->Option (List T × RS)
 |0,_,_,_=>none
 |f+1,d,q,p=>if p.aH 0=[44]then match mE f (.expr d) p.next with
   |none=>none
   |some (a,p)=>qg f d (q++[a]) p
  else some (q,p.ba [41])
end
def RS.oq(p:RS):Bool:=match p.l[p.i]? with|some t=>decide (t.aj=2)|none=>false
def RS.ck(p:RS):Int:=if p.aH 0=gb then 9 else 10
inductive JS where
 |block (d:Nat)
 |stmt (d:Nat)
 |cond (at_:Int) (d:Nat)
def fe(p:RS):Nat:=100*p.l.length+2000
def mX(d:Nat)(p:RS):Option (T × RS):=mE (fe p) (.expr d) p
mutual
def mS:Nat->JS->RS->Option (T × RS)
 |0,_,_=>none
 |f+1,.block d,p =>
  let p:=p.aY d
  match mB f (d+1) [] (p.ba [123])with
  |none=>none
  |some (l,q)=>some (one 14 p.place [] l,q.ba [125])
 |f+1,.stmt d,p =>
  let p:=p.aY d
  let at_:=p.place
  let s:=p.aH 0
  if s=lX then match mX (d+1) ((p.next.name.2).ba [61])with
   |none=>none
   |some (e,q)=>some (one 13 at_ p.next.name.1 [e],q.ba [59])
  else if s=gb\/s=gz then mS f (.cond at_ d) p
  else if s=gK then match mX (d+1) p.next with
   |none=>none
   |some (e,q)=>some (one 11 at_ [] [e],q.ba [59])
  else if p.code=0/\p.oq=true/\p.aH 1=[61]then match mX (d+1) (p.name.2.ba [61])with
   |none=>none
   |some (e,q)=>some (one 7 at_ p.name.1 [e],q.ba [59])
  else match mX (d+1) p with
   |none=>none
   |some (e,q) =>
    if e.n.aj=3/\e.n.at_=at_/\q.aH 0=[61]then match e.au,mX (d+1) q.next with
     |a::_,some (v,q)=>some (one 8 at_ e.n.s [a,v],q.ba [59])
     |_,_=>none
    else some (one 12 at_ [] [e],q.ba [59])
 |f+1,.cond at_ d,p =>
  match mX (d+1) (p.next.ba [40])with
  |none=>none
  |some (e,q)=>match mS f (.block (d+1)) (q.ba [41])with
   |none=>none
   |some (b,q) =>
    if p.ck=9/\q.aH 0=iz then match mS f (.block (d+1)) q.next with
     |none=>none
     |some (W,q)=>some (one p.ck at_ [] [e,b,W],q)
    else some (one p.ck at_ [] [e,b],q)
def mB:Nat->Nat->List T->RS->Option (List T × RS)
 |0,_,_,_=>none
 |f+1,d,q,p=>if p.code=0/\¬p.aH 0=[125]then match mS f (.stmt d) p with
   |none=>none
   |some (a,p)=>mB f d (q++[a]) p
  else some (q,p)
end
def dw{p:RS}{k:Nat}{s:ai}(h:p.aH k=s)(o:s≠[]):p.i+k<p.l.length/\p.code=0:=by
 grind[RS.aH,Nat.lt_of_not_le,List.getElem?_eq_none_iff]
def RS.to(p q:RS):Prop:=q.l=p.l/\q.e=p.e/\q.i<=q.l.length/\p.i<=q.i
theorem RS.to.ok{p q:RS}(h:p.to q)(R:p.ok):q.ok:=⟨h.2.2.1,by rw[h.1];exact R.2⟩
def RS.to.trans{p q r:RS}(h:p.to q)(k:q.to r):p.to r:=⟨k.1.trans h.1,k.2.1.trans h.2.1,k.2.2.1,ju h.2.2.2 k.2.2.2⟩
section
variable{p:RS}
theorem jV(R:p.ok):p.to p:=⟨rfl,rfl,R.1,a8 _⟩
theorem mY(R:p.ok)(c a:Int):p.to (p.fail c a):=by
 unfold RS.fail;split
 ·exact⟨rfl,rfl,R.1,a8 _⟩
 ·exact jV R
theorem cS(h:p.i<p.l.length):p.to p.next:=⟨rfl,rfl,h,Nat.le_succ _⟩
theorem bX(R:p.ok){s:ai}(o:s≠[]):p.to (p.ba s):=by
 unfold RS.ba;split
 ·rename_i h;exact cS (by have:=(dw h o).1;omega)
 grind[mY]
theorem eT(R:p.ok):p.to p.name.2:=by
 unfold RS.name
 grind[mY,List.getElem?_eq_some_iff,cS,jV]
theorem ir(R:p.ok)(d:Nat):p.to (p.aY d):=by
 grind[mY,jV,RS.to,RS.aY]
def dP{s:ai}(h:p.aH 0=s)(o:s≠[]):p.to p.next:=cS (by have:=(dw h o).1;omega)
end
def ry:∀(f:Nat),(∀j p t q,p.ok->mE f j p=some (t,q)->p.to q)/\(∀d p l q,p.ok->mL f d p=some (l,q)->p.to q)/\(∀d r p l q,p.ok->qg f d r p=some (l,q)->p.to q)
 |0=>⟨fun j p t q _ h=>by simp[mE]at h,fun d p l q _ h=>by simp[mL]at h,fun d r p l q _ h=>by simp[qg]at h⟩
 |f+1=>by
  have⟨z,v,I⟩:=ry f;refine⟨fun j p t q R h=>?_,fun d p l q R h=>?_,fun d r p l q R h=>?_⟩
  ·cases j with
   |expr d=>rw[mE]at h;exact(ir R d).trans (z _ _ _ _ ((ir R d).ok R) h)
   |level k d =>
    rw[mE]at h;split at h
    ·grind
    ·split at h
     ·cases h
     ·rename_i out m e;have:=z _ _ _ _ R e;exact zcH
   |loop k d out =>
    rw[mE]at h;split at h
    ·split at h
     ·cases h
     ·rename_i O H;have Q:=cS (p:=p) (bG H).1;split at h
      ·cases h
      ·rename_i b m e;have:=Q.trans (z _ _ _ _ (Q.ok R) e);exact zcH
    grind[jV]
   |operand d =>
    rw[mE]at h;have n:=ir R d;have c:=n.ok R;refine n.trans ?_;generalize p.aY d=p at *
    try simp only at h
    split at h
    ·split at h
     ·grind[mY]
     ·rename_i O H;have Q:=cS (p:=p) (bG H).1;split at h
      ·grind
      ·split at h
       ·exact(eT c).trans (z _ _ _ _ ((eT c).ok c) h)
       ·split at h
        ·split at h
         ·cases h
         ·rename_i a m e
          cases h;exact Q.trans (z _ _ _ _ (Q.ok c) e)
        ·split at h
         ·split at h
          ·cases h
          ·rename_i a m e;have:=Q.trans (z _ _ _ _ (Q.ok c) e)
           cases h;exact zbY
         grind[mY]
    grind[mY]
   |named a s d =>
    rw[mE]at h;split at h
    ·rename_i o;have Q:=dP o aE;split at h
     ·cases h
     ·rename_i i m e;have:=Q.trans (z _ _ _ _ (Q.ok R) e)
      cases h;exact this.trans (bX (this.ok R) aE)
    ·split at h
     ·rename_i o;have Q:=dP o aE;split at h
      ·cases h
      ·rename_i i m e
       cases h;exact Q.trans (v _ _ _ _ (Q.ok R) e)
     grind[jV]
  ·rw[mL]at h;split at h
   ·grind[bX]
   ·split at h
    ·cases h
    ·rename_i a m e;have:=z _ _ _ _ R e;exact this.trans (I _ _ _ _ _ (this.ok R) h)
  ·rw[qg]at h;split at h
   ·rename_i o;have Q:=dP o aE;split at h
    ·cases h
    ·rename_i a m e;have:=Q.trans (z _ _ _ _ (Q.ok R) e);exact this.trans (I _ _ _ _ _ (this.ok R) h)
   grind[bX]
def small(c:UInt8):Bool:=decide ((97:Int)<=(c.toNat:Int))&&decide ((c.toNat:Int)<=122)
def eF(c:UInt8):Bool:=decide ((48:Int)<=(c.toNat:Int))&&decide ((c.toNat:Int)<=57)
def fB(c:UInt8):Bool:=small c ||(decide ((65:Int)<=(c.toNat:Int))&&decide ((c.toNat:Int)<=90)) ||eF c ||((c.toNat:Int)==95)
def fq(c:UInt8):Bool:=((c.toNat:Int)==32) ||((c.toNat:Int)==9) ||((c.toNat:Int)==10) ||((c.toNat:Int)==13)
def cr(s:ai)(at_:Nat)(t:ai):Bool:=decide (at_+t.length<=s.length)&&((s.take (at_+t.length)).drop at_==t)
def im(s:ai):Nat->Nat->Nat
 |0,e=>e
 |f+1,e=>if e<s.length/\cr s e [42,47]=false then im s f (e+1)else e
def skip(s:ai):Nat->Nat->Nat × Int
 |0,at_=>(at_,-1)
 |f+1,at_=>match s[at_]? with
  |none=>(at_,-1)
  |some c =>
   if fq c=true then skip s f (at_+1)
   else if cr s at_ [47,42]=true then
    let e:=im s s.length (at_+2)
    if s.length<=e then(at_,(at_:Int))else skip s f (e+2)
   else(at_,-1)
theorem lT{s t:ai}{a:Nat}(h:cr s a t=true):a+t.length<=s.length:=by
 simp_all[cr,a6,decide_eq_true_eq]
theorem sk(s:ai):∀(f e:Nat),e<=s.length->e<=im s f e/\im s f e<=s.length
 |0,e,h=>⟨a8 _,h⟩
 |f+1,e,h=>by
  rw[im];split
  ·rename_i o;have:=sk s f (e+1) o.1;omega
  omega
theorem rv(s:ai):∀(f e:Nat),e<=s.length->s.length<=f+e->¬(im s f e<s.length/\cr s (im s f e) [42,47]=false)
 |0,e,h,t=>by rw[im];omega
 |f+1,e,h,t=>by
  rw[im];split
  ·rename_i o;exact rv s f (e+1) o.1 aK
  omega
def number(s:ai):Nat->Int->Nat->Int × Nat
 |0,n,a=>(n,a)
 |f+1,n,a=>match s[a]? with
  |none=>(n,a)
  |some c=>if eF c=true then number s f (if n<=2147483647 then n*10+((c.toNat:Int)-48)else n) (a+1)else(n,a)
def run(s:ai)(p:UInt8->Bool):Nat->Nat->Nat
 |0,a=>a
 |f+1,a=>match s[a]? with
  |none=>a
  |some c=>if p c=true then run s p f (a+1)else a
def words:List ai:=[[105,110,116],[118,97,114],[102,117,110,99],[105,102],[101,108,115,101],[119,104,105,108,101],[114,101,116,117,114,110]]
def cE:List ai:=[[124,124],[38,38],[61,61],[33,61],[60,61],[62,61],[60,60],[62,62],[40],[41],[123],[125],[91],[93],[44],[59],[61],[60],[62],[43],[45],[42],[47],[37],[38],[124],[94],[33],[126]]
def gV(s:ai)(a:Nat):Nat:=run s fB (s.length+1) a
def jt(s:ai)(a:Nat):ai:=(s.take (gV s a)).drop a
def gD(s:ai)(a:Nat)(c:UInt8):Tok × Nat :=
 if eF c=true then(⟨1,(number s (s.length+1) 0 a).1,[],a⟩,(number s (s.length+1) 0 a).2)
 else if small c=true then(⟨if words.contains (jt s a)=true then 3 else 2,0,jt s a,a⟩,gV s a)
 else match cE.find? (cr s a)with
  |some x=>(⟨3,0,x,a⟩,a+x.length)
  |none=>(⟨0,0,[],0⟩,a)
def qG(s:ai):Nat->Nat->List Tok->Option (List Tok)
 |0,_,_=>none
 |f+1,a,q=>match s[a]? with
  |none=>some q
  |some c=>qG s f (skip s (s.length+1) (gD s a c).2).1 (q++[(gD s a c).1])
def ic(s:ai):Option (List Tok):=qG s (s.length+2) (skip s (s.length+1) 0).1 []
def word(s:ai):Bool:=s.all fB&&(match s with|[]=>false|c::_=>small c)
def cb(s:ai):Bool:=word s&&decide (s.length<=12)&&!(words.contains s)
theorem sr(s:ai):∀(f:Nat)(n:Int)(a:Nat),a<=s.length->s.length<f+a->(∀c,s[(number s f n a).2]?=some c->eF c=false)/\a<=(number s f n a).2/\(number s f n a).2<=s.length
 |0,n,a,z,v=>by omega
 |f+1,n,a,z,v=>by
  rw[number]
  cases o:s[a]? with
  |none=>grind
  |some c =>
   simp only;have i:=(bG o).1
   by_cases q:eF c=true
   ·rw[ae q];have⟨I,d,F⟩:=sr s f (if n<=2147483647 then n*10+((c.toNat:Int)-48)else n) (a+1) aK aK
    grind
   grind
theorem oV(s:ai)(p:UInt8->Bool):∀(f:Nat)(a:Nat),a<=s.length->s.length<f+a->(∀c,s[run s p f a]?=some c->p c=false)/\a<=run s p f a/\run s p f a<=s.length
 |0,a,z,v=>by omega
 |f+1,a,z,v=>by
  rw[run]
  cases o:s[a]? with
  |none=>grind
  |some c =>
   simp only;have i:=(bG o).1
   by_cases n:p c=true
   ·rw[ae n];have⟨I,d,F⟩:=oV s p f (a+1) aK aK
    grind
   grind
def sQ(s:ai):∀(f a:Nat),a<=s.length->a<=(skip s f a).1/\(skip s f a).1<=s.length
 |0,a,h=>⟨a8 _,h⟩
 |f+1,a,h=>by
  rw[skip]
  cases o:s[a]? with
  |none=>grind
  |some c =>
   simp only;have i:=(bG o).1;split
   ·have:=sQ s f (a+1) i;omega
   ·split
    ·rename_i r;have r:=lT r;have r:a+2<=s.length:=r;have z:=sk s s.length (a+2) r;have v:=rv s s.length (a+2) r aK;split
     ·omega
     ·rename_i Q
      have I:cr s (im s s.length (a+2)) [42,47]=true:=by
       grind
      have I:=lT I;have I:im s s.length (a+2)+2<=s.length:=I;have:=sQ s f (im s s.length (a+2)+2) I;omega
    omega
def fS{d:Nat}{p q:RS}{t:T}(R:p.ok)(h:mX d p=some (t,q)):p.to q:=(ry _).1 _ _ _ _ R h
def pI:∀(f:Nat),(∀j p t q,p.ok->(∀a d,j=.cond a d->p.i<p.l.length)->mS f j p=some (t,q)->p.to q)/\(∀d A p l q,p.ok->mB f d A p=some (l,q)->p.to q)
 |0=>⟨fun j p t q _ _ h=>by simp[mS]at h,fun d A p l q _ h=>by simp[mB]at h⟩
 |f+1=>by
  have⟨I,Q⟩:=pI f
  have z:∀d(p:RS)t q,p.ok->mS f (.block d) p=some (t,q)->p.to q:=fun d p t q k h=>I _ _ _ _ k (fun a O h=>by cases h) h
  refine⟨fun j p t q k B h=>?_,fun d A p l q k h=>?_⟩
  ·cases j with
   |block d =>
    rw[mS]at h;have E:=ir k d;refine E.trans ?_;have c:=E.ok k;generalize p.aY d=p at *
    try simp only at h
    have F:=bX c (s:=[123]) aE;split at h
    ·cases h
    ·rename_i l C m;have:=F.trans (Q _ _ _ _ _ (F.ok c) m)
     cases h;exact zbY
   |stmt d =>
    rw[mS]at h;have E:=ir k d;refine E.trans ?_;have c:=E.ok k;generalize p.aY d=p at *
    try simp only at h
    split at h
    ·rename_i n;have u:=dP n aE;have w:=u.trans (eT (u.ok c));have o:=w.trans (bX (w.ok c) (s:=[61]) aE);split at h
     ·cases h
     ·rename_i e C m;have:=o.trans (fS (o.ok c) m)
      cases h;exact zbY
    ·split at h
     ·rename_i n;refine I _ _ _ _ c (fun a O _=>?_) h
      rcases n with n|n
      ·exact(dw n aE).1
      ·exact(dw n aE).1
     ·split at h
      ·rename_i n;have u:=dP n aE;split at h
       ·cases h
       ·rename_i e C m;have:=u.trans (fS (u.ok c) m)
        cases h;exact zbY
      ·split at h
       ·have w:=eT c;have o:=w.trans (bX (w.ok c) (s:=[61]) aE);split at h
        ·cases h
        ·rename_i e C m;have:=o.trans (fS (o.ok c) m)
         cases h;exact zbY
       ·split at h
        ·cases h
        ·rename_i e C m;have hx:=fS c m;split at h
         ·rename_i n;have u:=hx.trans (dP n.2.2 aE);split at h
          ·rename_i a r v S W N;have:=u.trans (fS (u.ok c) N)
           cases h;exact zbY
          ·cases h
         ·cases h;exact hx.trans (bX (hx.ok c) aE)
   |cond a d =>
    rw[mS]at h;have u:=cS (B a d rfl);have F:=u.trans (bX (u.ok k) (s:=[40]) aE)
    try simp only at h
    split at h
    ·cases h
    ·rename_i e C m;have hx:=F.trans (fS (F.ok k) m);have G:=hx.trans (bX (hx.ok k) (s:=[41]) aE);split at h
     ·cases h
     ·rename_i b S R;have J:=G.trans (z _ _ _ _ (G.ok k) R);split at h
      ·rename_i n;have H:=J.trans (dP n.2 aE);split at h
       ·cases h
       ·rename_i T p3 M
        cases h;exact H.trans (z _ _ _ _ (H.ok k) M)
      grind
  ·rw[mB]at h;split at h
   ·split at h
    ·cases h
    ·rename_i a C m;have:=I _ _ _ _ k (fun a O h=>by cases h) m;exact this.trans (Q _ _ _ _ _ (this.ok k) h)
   grind[jV]
structure Fn where
 name:ai
 params:List ai
 body:Int
structure Src where
 aw:List ai
 aq:List Ar
 az:List Fn
 ak:List Nd
def nH(k:Int):Bool:=decide ((1:Int)<=k)&&decide (k<=6)
def jl(k:Int):Bool:=decide ((7:Int)<=k)&&decide (k<=13)
def b0(H:Nat):Nat->List T->Bool
 |_,[]=>true
 |i,t::r=>(if i<H then nH t.n.aj else t.n.aj==14)&&b0 H (i+1) r
def fX(s:ai):Bool:=levels.any fun l=>l.contains s
mutual
def sub(ak:List Nd):Nat->Nat->Option T
 |0,_=>none
 |f+1,a=>match ak[a]? with
  |none=>none
  |some n=>match pj ak f n.au []with
   |none=>none
   |some l=>some (.mk n l)
def pj(ak:List Nd):Nat->List Int->List T->Option (List T)
 |_,[],q=>some q
 |0,_::_,_=>none
 |f+1,k::r,q=>if k<0 then none else match sub ak f k.toNat with
  |none=>none
  |some t=>pj ak f r (q++[t])
end
mutual
def pe(ak:List Nd):Nat->Nat->Nat->Option Int
 |0,_,_=>none
 |f+1,a,d=>if ak.length<=a\/d>800 then some (-1)else match ak[a]? with
  |none=>none
  |some n=>pd ak f n.au (a+1) d
def pd(ak:List Nd):Nat->List Int->Int->Nat->Option Int
 |_,[],next,_=>some next
 |0,_::_,_,_=>none
 |f+1,k::r,next,d=>if k=next then match pe ak f k.toNat (d+1)with
   |none=>none
   |some e=>if e<0 then some (-1)else pd ak f r e d
  else some (-1)
end
def own(n:Nd)(k:Nat)(kd:Nat->Bool)(o:Bool):Bool :=
 if decide (n.at_<0)then false else if n.aj != 1&&n.n != 0 then false
 else if n.aj==1 then decide ((0:Int)<=n.n)&&(decide (n.n<=2147483647)&&(n.s==[]&&(k:Int)==0))
 else if n.aj==2 then cb n.s&&(k:Int)==0
 else if n.aj==3 ||n.aj==7 ||n.aj==13 then cb n.s&&((k:Int)==1&&kd 1)
 else if n.aj==4 then cb n.s&&kd k
 else if n.aj==5 then(n.s==[45] ||n.s==[33] ||n.s==[126])&&((k:Int)==1&&kd 1)
 else if n.aj==6 then fX n.s&&((k:Int)==2&&kd 2)
 else if n.aj==8 then cb n.s&&((k:Int)==2&&kd 2)
 else if n.aj==9 then n.s==[]&&(((k:Int)==2 ||(k:Int)==3)&&kd 1)
 else if n.aj==10 then n.s==[]&&((k:Int)==2&&kd 1)
 else if n.aj==11 ||n.aj==12 then n.s==[]&&((k:Int)==1&&kd 1)
 else if n.aj==14 then o&&n.s==[]
 else false
def cL(t:T):Bool:=own t.n t.au.length (fun m=>b0 m 0 t.au) (t.au.all fun x=>jl x.n.aj)
mutual
def dU:T->Bool
 |.mk n l=>dB l&&cL (.mk n l)
def dB:List T->Bool
 |[]=>true
 |t::r=>dU t&&dB r
end
mutual
def Fv:T->Prop
 |.mk n l=>n.s.length<=1099511627776/\l.length<=1099511627776/\wF l
def wF:List T->Prop
 |[]=>True
 |t::r=>Fv t/\wF r
end
def Fx:∀{l:List T}{t:T},wF l->t∈l->Fv t
 |[],_,_,h=>by cases h
 |a::r,t,h,hm=>by
  rw[wF]at h
  rcases List.mem_cons.mp hm with rfl|hm
  ·exact h.1
  ·exact Fx h.2 hm
theorem Fw:∀{l:List T}{t:T},wF l->Fv t->wF (l++[t])
 |[],t,_,H=>⟨H,trivial⟩
 |a::r,t,h,H=>by
  rw[wF]at h;exact⟨h.1,Fw h.2 H⟩
def WH{ak:List Nd}(G:∀n∈ak,n.s.length<=1099511627776/\n.au.length<=1099511627776):∀f:Nat,(∀a t,sub ak f a=some t->Fv t)/\(∀ks q l,pj ak f ks q=some l->q.length+ks.length=l.length/\(wF q->wF l)):=by
 intro f
 induction f with
 |zero =>
  refine⟨fun a t h=>by simp[sub]at h,fun ks q l h=>?_⟩
  cases ks with
  |nil=>grind[pj]
  |cons k r=>simp[pj]at h
 |succ f v =>
  constructor
  ·intro a t h;rw[sub]at h
   cases Q:ak[a]? with
   |none=>grind
   |some n =>
   rw[Q]at h;simp only at h
   cases o:pj ak f n.au []with
   |none=>grind
   |some l =>
   rw[o]at h;cases h;have M:=v.2 _ _ _ o;have u:=G n (bR Q);exact⟨u.1,by grind,M.2 trivial⟩
  ·intro ks q l h
   cases ks with
   |nil=>grind[pj]
   |cons k r =>
    rw[pj]at h
    by_cases I:k<0
    ·grind
    grind[Fw]
def dp:List ai->Bool:=fun l=>l.all cb
def la(a:Ar):Bool:=cb a.name&&!(decide (a.size<0))&&!(decide (2147483647<a.size))
def fN(ak:List Nd):Nat:=2*ak.length+4
def jk(ak:List Nd):List Fn->Int->Option (Option Int)
 |[],next=>some (some next)
 |f::r,next=>match pe ak (fN ak) next.toNat 0 with
  |none=>none
  |some e=>if f.body≠next\/cb f.name=false\/e<0 then some none else if dp f.params=false then some none else match sub ak (fN ak) next.toNat with
   |none=>none
   |some t=>if t.n.aj≠14\/dU t=false then some none else jk ak r e
def oX(p:Src):Option Bool :=
 if dp p.aw=false then some false else if p.aq.all la=false then some false else match jk p.ak p.az 0 with
  |none=>none
  |some none=>some false
  |some (some next)=>some (next==(p.ak.length:Int)&&decide (next<=800))
end Go.Sp
namespace Go.Xp
section
variable{e:Int}{s:ai}{ts r:List Tok}
theorem BX(h:ba e s ts=.ok r):r=ts.tail/\aH ts 0=s:=by
 grind[ba]
def wu(h:ba e s ts=.ok r):r.length<=ts.length:=by
 rw[(BX h).1,List.length_tail];omega
def yk(o:s≠[])(h:ba e s ts=.ok r):r.length<ts.length:=by
 have⟨z,v⟩:=BX h;rw[z,List.length_tail]
 cases ts with
 |nil=>exact absurd v.symm o
 |cons=>simp
end
def dw{s:ai}{ts:List Tok}(o:s≠[])(h:aH ts 0=s):ts.tail.length<ts.length:=by
 cases ts with
 |nil=>exact absurd h.symm o
 |cons=>simp
theorem qW{e:Int}{s:ai}{ts:List Tok}{x:Er}(h:ba e s ts=.error x):x≠bC:=by
 unfold ba at h;grind[bC]
def E1{e:Int}{s:ai}{ts r:List Tok}(h:name e ts=.ok (s,r)):r.length<ts.length:=by
 unfold name at h;grind
theorem Iu{e:Int}{ts:List Tok}{x:Er}(h:name e ts=.error x):x≠bC:=by
 unfold name at h;grind[bC]
def ph:tS->Nat->Nat
 |.operand _,n=>20*n+1
 |.loop _ _ _,n=>20*n+1
 |.level k _,n=>20*n+2+(9-k)
 |.expr _,n=>20*n+12
def sn(q:List T)(n:Nat):Nat:=match q with|[]=>20*n+14|_=>20*n+1
def AE:tS->Prop
 |.level k _=>k<=9
 |.loop k _ _=>k<9
 |_=>True
def good(e:Int)(f:Nat)(j:tS)(ts:List Tok):Prop :=
 AE j->(∀t r,rd e f j ts=.ok (t,r)->r.length<=ts.length)/\(ph j ts.length<=f->rd e f j ts≠.error bC)
def QZ(e:Int)(f aY:Nat)(q:List T)(ts:List Tok):Prop :=
 (∀t r,rd.args e f aY q ts=.ok (t,r)->r.length<=ts.length)/\(sn q ts.length<=f->rd.args e f aY q ts≠.error bC)
theorem er7{a:Int}:((7,a):Er)≠bC:=by intro h;cases h
def B4(e:Int):∀f,(∀j ts,good e f j ts)/\(∀aY q ts,QZ e f aY q ts)
 |0=>by
  refine⟨fun j ts _=>⟨fun t r h=>?_,fun h=>?_⟩,fun aY q ts=>⟨fun t r h=>?_,fun h=>?_⟩⟩
  ·grind[rd]
  ·cases j<;>simp only[ph]at h<;>omega
  ·grind[rd.args]
  ·unfold sn at h;grind
 |f+1=>by
  have⟨u,M⟩:=B4 e f;constructor
  ·intro j ts o
   cases j with
   |expr aY =>
    have⟨z,v⟩:=u (.level 0 (aY+1)) ts (bj _);rw[rd];split
    ·exact zcL
    ·exact⟨z,fun h=>v (by grind[ph])⟩
   |level k aY =>
    have o:k<=9:=o;rw[rd];split
    ·have⟨z,v⟩:=u (.operand aY) ts trivial;exact⟨z,fun h=>v (by grind[ph])⟩
    ·obtain⟨z,v⟩:=u (.level (k+1) aY) ts (by grind[AE]);split
     ·grind[ph]
     ·rename_i out R hx;obtain⟨I,c⟩:=u (.loop k aY out) R (by show k<9;omega);have:=z _ _ hx;exact⟨fun t r h=>ju (I t r h) this,fun h=>c (by grind[ph])⟩
   |loop k aY out =>
    have o:k<9:=o
    cases ts with
    |nil=>rw[rd];simp
    |cons l r0 =>
     rw[rd];split
     ·obtain⟨z,v⟩:=u (.level (k+1) aY) r0 (by grind[AE]);split
      ·grind[ph]
      ·rename_i b r hx;have⟨I,c⟩:=u (.loop k aY (one 6 l.at_ l.s [out,b])) r o;have:=z _ _ hx;exact⟨fun t r h=>by grind,fun h=>c (by grind[ph])⟩
     simp
   |operand aY =>
    cases ts with
    |nil=>rw[rd];split<;>exact⟨fun t r h=>zfu,fun _ h=>zfu⟩
    |cons l r0 =>
    rw[rd];split
    ·exact zcL
    split
    ·split
     ·have⟨z,v⟩:=u (.operand (aY+1)) r0 trivial;split
      ·grind[ph]
      grind
     split
     ·have⟨z,v⟩:=u (.expr (aY+1)) r0 trivial;split
      ·grind[ph]
      ·rename_i a r hx;have:=z _ _ hx;split
       ·grind[qW]
       ·rename_i G N;have:=wu N
        grind
     ·exact zcL
    split
    ·simp
    split
    ·grind[Iu]
    ·rename_i s r Q;have W:=E1 Q;simp only[length_cons]at W
     have i:r.tail.length<=r.length:=by simp
     split
     ·have⟨z,v⟩:=u (.expr (aY+1)) r.tail trivial;split
      ·grind[ph]
      ·rename_i a G hx;have:=z _ _ hx;split
       ·grind[qW]
       ·rename_i E N;have:=wu N
        grind
     split
     ·have⟨z,v⟩:=M (aY+1) [] r.tail;split
      ·rename_i x hx;exact⟨fun t r h=>zfu,fun h O=>v (by grind[ph,length_cons,sn]) (hx.trans zfk)⟩
      grind
     grind
  ·intro aY q ts;unfold QZ;rw[rd.args];split
   ·simp
   ·by_cases w:q=[]
    ·subst w;simp only[if_true];have⟨z,v⟩:=u (.expr aY) ts trivial;split
     ·rename_i x hx;exact⟨fun t r h=>zfu,fun h O=>v (by grind[sn,ph]) (hx.trans zfk)⟩
     ·rename_i a r hx;have:=z _ _ hx;have⟨I,c⟩:=M aY ([]++[a]) r;exact⟨fun t r h=>by grind,fun h=>c (by grind[sn])⟩
    ·rw[ab w]
     have B:∀n,sn q n=20*n+1:=by simp[sn]
     split
     ·grind[qW]
     ·rename_i R N;have i:=yk aE N;have⟨z,v⟩:=u (.expr aY) R trivial;split
      ·grind[ph]
      ·rename_i a r hx;have:=z _ _ hx;have⟨I,c⟩:=M aY (q++[a]) r
       have A:sn (q++[a]) r.length=20*r.length+1:=by
        simp[sn]
       grind
section
variable{e:Int}{f:Nat}{j:tS}{ts:List Tok}
def Wp{t:T}{r:List Tok}(o:AE j)(h:rd e f j ts=.ok (t,r)):r.length<=ts.length:=((B4 e f).1 j ts o).1 t r h
def yt(o:AE j)(h:ph j ts.length<=f):rd e f j ts≠.error bC:=((B4 e f).1 j ts o).2 h
end
section
variable{e:Int}{aY:Nat}
theorem CG{ts:List Tok}:expr e aY ts≠.error bC:=yt (j:=.expr aY) trivial (by simp[ph,nG])
def zo{ts:List Tok}{t:T}{r:List Tok}(h:expr e aY ts=.ok (t,r)):r.length<=ts.length:=Wp (j:=.expr aY) trivial h
def zw{a b:ai}{ts r:List Tok}{t:T}(ha:a≠[])(h:inner e aY a b ts=.ok (t,r)):r.length<ts.length:=by
 unfold inner at h;split at h
 ·cases h
 ·rename_i W z;split at h
  ·cases h
  ·rename_i a1 w v;split at h
   ·cases h
   ·rename_i A I;cases h;have:=yk ha z;have:=zo v;have:=wu I;omega
theorem zv{a b:ai}{ts:List Tok}{x:Er}(h:inner e aY a b ts=.error x):x≠bC:=by
 grind[inner,qW,CG]
def Fq{ts r:List Tok}{t:ai × T}(h:l9 e aY ts=.ok (t,r)):r.length<ts.length:=by
 unfold l9 at h;split at h
 ·cases h
 ·rename_i s W z;split at h
  ·cases h
  ·rename_i a w v;cases h;have:=E1 z;have:=zw aE v;omega
theorem Fp{ts:List Tok}{x:Er}(h:l9 e aY ts=.error x):x≠bC:=by
 grind[l9,Iu,zv]
theorem Ee{ts:List Tok}{x:Er}(h:expr e aY ts=.error x):x≠bC:=fun M=>CG (h.trans (by rw[M]))
theorem NC{ts r:List Tok}{t:T}(h:simple e aY ts=.ok (t,r)):r.length<ts.length:=by
 unfold simple at h;split at h
 ·grind
 ·rename_i j r0;split at h
  ·split at h
   ·cases h
   ·rename_i s a W z;cases h;exact Fq z
  ·split at h
   ·cases h
   ·rename_i a W z;have:=zo z;split at h
    ·split at h
     ·cases h
     ·rename_i v A w;cases h;have:=zw aE w;omega
    ·split at h
     ·cases h
     ·rename_i A w;cases h;have:=yk aE w;omega
theorem NB{ts:List Tok}{x:Er}(h:simple e aY ts=.error x):x≠bC:=by
 unfold simple at h
 grind[Ee,er7,Fp,zv,qW]
end
def JP(e:Int)(f:Nat)(j:sV)(ts:List Tok):Prop :=
 (∀t r,rs e f j ts=.ok (t,r)->r.length<ts.length)/\(3*ts.length+1<=f->rs e f j ts≠.error bC)
def JO(e:Int)(f aY:Nat)(q:List T)(ts:List Tok):Prop :=
 (∀t r,rs.body e f aY q ts=.ok (t,r)->r.length<ts.length)/\(3*ts.length+2<=f->rs.body e f aY q ts≠.error bC)
def IJ(e:Int):∀f,(∀j ts,JP e f j ts)/\(∀aY q ts,JO e f aY q ts)
 |0=>by
  grind[rs,rs.body,JP,JO]
 |f+1=>by
  have⟨t,M⟩:=IJ e f;constructor
  ·intro j ts;unfold JP
   cases j with
   |block aY =>
    rw[rs];split
    ·simp[Rd,Er,place,bC]
    ·split
     ·grind[qW]
     ·rename_i r0 Q;have O:=yk aE Q;have⟨z,w⟩:=M (aY+1) [] r0
      grind
   |stmt aY =>
    rw[rs];split
    ·simp[Rd,Er,place,bC]
    ·simp only;split
     ·rename_i N;have O:=dw aE N;split
      ·grind[Fp]
      ·rename_i s a W hx;have:=Fq hx
       grind
     split
     ·rename_i N
      have O:ts.tail.length<ts.length:=by
       rcases N with N|N<;>exact dw aE N
      split
      ·grind[zv]
      ·rename_i c n hx;have o:=zw aE hx;have⟨z,w⟩:=t (.block (aY+1)) n;split
       ·grind
       ·rename_i b u v;have A:=z _ _ v;split
        ·split
         ·have⟨I,d⟩:=t (.block (aY+1)) u.tail
          grind
         grind
        grind
     split
     ·rename_i N;have O:=dw aE N;split
      ·grind[Ee]
      ·rename_i a n hx;have:=zo hx;split
       ·grind[qW]
       ·rename_i u Q;have:=wu Q
        grind
     grind[NC,NB]
  ·intro aY q ts;unfold JO;rw[rs.body];split
   ·rename_i N;have O:=dw aE N
    grind
   ·have⟨z,w⟩:=t (.stmt aY) ts;split
    ·grind
    ·rename_i a r hx;have:=z _ _ hx;have⟨I,d⟩:=M aY (q++[a]) r
     grind
def vN{e:Int}{aY:Nat}{ts:List Tok}:block e aY ts≠.error bC:=((IJ e _).1 (.block aY) ts).2 (by grind[nG])
end Go.Xp
namespace Go.Sp
open Go.Xp
structure On(p:RS)(ts:List Tok):Prop where
 code:p.code=0
 le:p.i<=p.l.length
 rest:p.l.drop p.i=ts
 kinds:∀t∈p.l,t.aj=1\/t.aj=2\/t.aj=3
def cD(p q:RS):Except Er (List Tok)->Prop
 |.ok r=>On q r/\q.l=p.l/\q.e=p.e
 |.error x=>q.code=x.1/\x.1≠0/\q.at_=x.2/\q.l=p.l/\q.e=p.e
def iu{C:Type}(p q:RS)(t:C):Rd C->Prop
 |.ok (O,r)=>t=O/\cD p q (.ok r)
 |.error x=>cD p q (.error x)
section
variable{p q q':RS}{ts r:List Tok}{x:Er}
theorem cD.err(h:cD p q (.error x)):q.code≠0:=by rw[h.1];exact h.2.1
theorem cD.tr{y:Except Er (List Tok)}(h:cD p q (.ok r))(k:cD q q' y):cD p q' y:=by
 have⟨_,z,v⟩:=h
 cases y with
 |ok r=>grind[cD]
 |error x=>grind[cD]
def iu.tr{C:Type}{t:C}{y:Rd C}(h:cD p q (.ok r))(k:iu q q' t y):iu p q' t y:=by
 cases y with
 |ok r=>have⟨O,r⟩:=r;exact⟨k.1,h.tr k.2⟩
 |error x=>exact h.tr (y:=.error x) k
def On.self(h:On p ts):cD p p (.ok ts):=⟨h,rfl,rfl⟩
def On.at(h:On p ts)(k:Nat):p.l[p.i+k]?=ts[k]?:=by rw[<-h.rest,List.getElem?_drop]
theorem On.aH(h:On p ts)(k:Nat):p.aH k=Go.Xp.aH ts k:=by
 unfold RS.aH Go.Xp.aH;rw[ae h.code,h.at]
 try rfl
theorem On.place(h:On p ts):p.place=Go.Xp.place p.e ts:=by
 have M:=h.at 0;unfold RS.place;rw[Nat.add_zero]at M;rw[M]
 cases ts with
 |nil=>rfl
 |cons t r=>rfl
theorem On.next{t:Tok}(h:On p (t::r)):cD p p.next (.ok r):=by
 have z:p.i<p.l.length:=by
  have:=congrArg List.length h.rest
  grind
 refine⟨⟨h.code,z,?_,h.kinds⟩,rfl,rfl⟩;show p.l.drop (p.i+1)=r;rw[<-List.tail_drop,h.rest];rfl
theorem On.fail(h:On p ts)(c a:Int)(o:c≠0):cD p (p.fail c a) (.error (c,a)):=by
 unfold RS.fail;rw[ae h.code];exact⟨rfl,o,rfl,rfl,rfl⟩
theorem ti(h:p.code≠0)(c a:Int):p.fail c a=p:=by grind[RS.fail]
theorem mq(h:p.code≠0)(k:Nat):p.aH k=[]:=by grind[RS.aH]
theorem iK(h:p.code≠0){s:ai}(o:s≠[]):p.ba s=p:=by
 unfold RS.ba
 simp_all[mq,ab,ti]
theorem zD(h:p.code≠0):p.name=([],p):=by grind[RS.name]
theorem qP(h:p.code≠0)(d:Nat):p.aY d=p:=by grind[ti,RS.aY]
theorem ep{s:ai}(o:s≠[])(h:Go.Xp.aH ts 0=s):∃t,ts=t::ts.tail/\t.aj=3/\t.s=s:=by
 cases ts with
 |nil=>exact absurd h.symm o
 |cons t r =>
  grind[Go.Xp.aH,getElem?_cons_zero,dL]
theorem On.ba(h:On p ts){s:ai}(o:s≠[]):cD p (p.ba s) (Go.Xp.ba p.e s ts):=by
 unfold RS.ba Go.Xp.ba;rw[h.aH]
 by_cases M:Go.Xp.aH ts 0=s
 ·rw[ae M,ae M];have⟨t,H,_⟩:=ep o M;rw[H]at h
  exact h.next
 ·rw[ab M,ab M,h.place];exact h.fail 7 _ aE
theorem On.name(h:On p ts):iu p p.name.2 p.name.1 (Go.Xp.name p.e ts)\/∃x,Go.Xp.name p.e ts=.error x/\cD p p.name.2 (.error x):=by
 have M:=h.at 0;rw[Nat.add_zero]at M;unfold RS.name;rw[ae h.code,M]
 cases ts with
 |nil=>exact .inr ⟨_,rfl,by rw[h.place];exact h.fail 7 _ aE⟩
 |cons t r =>
  simp only[getElem?_cons_zero,Go.Xp.name];split
  ·split
   ·exact .inr ⟨_,rfl,h.fail 8 _ aE⟩
   ·exact .inl ⟨rfl,h.next⟩
  ·refine .inr ⟨_,rfl,?_⟩;have:p.place=t.at_:=h.place;rw[this];exact h.fail 7 _ aE
end
theorem AD{p:RS}(h:p.code≠0):(∀g d,1<=g->mE g (.operand d) p=some (T.zero,p))/\(∀g k d out,1<=g->mE g (.loop k d out) p=some (out,p))/\(∀n g k d,k+n=9->n+2<=g->mE g (.level k d) p=some (T.zero,p)):=by
 have z:∀g d,1<=g->mE g (.operand d) p=some (T.zero,p):=by
  intro g d F
  cases g with
  |zero=>omega
  |succ g=>rw[mE];grind[qP,ti]
 have v:∀g k d out,1<=g->mE g (.loop k d out) p=some (out,p):=by
  intro g k d out F
  cases g with
  |zero=>omega
  |succ g=>grind[mE]
 refine⟨z,v,fun n=>?_⟩
 induction n with
 |zero =>
  intro g k d G F
  cases g with
  |zero=>omega
  |succ g=>grind[mE,T.zero]
 |succ n s =>
  intro g k d G F
  cases g with
  |zero=>omega
  |succ g =>
   grind[mE,T.zero]
def VX{p:RS}(h:p.code≠0){g d:Nat}(hg:12<=g):mE g (.expr d) p=some (T.zero,p):=by
 cases g with
 |zero=>omega
 |succ g=>grind[qP,AD,mE,T.zero]
def KF(f:Nat):Nat:=2*f+20
structure JE(f:Nat):Prop where
 expr:∀d ts p,On p ts->rd p.e f (.expr d) ts≠.error bC->∃t q,(∀g,KF f<=g->mE g (.expr d) p=some (t,q))/\iu p q t (rd p.e f (.expr d) ts)
 level:∀k d ts p,k<=9->On p ts->rd p.e f (.level k (d+1)) ts≠.error bC->∃t q,(∀g,KF f<=g->mE g (.level k d) p=some (t,q))/\iu p q t (rd p.e f (.level k (d+1)) ts)
 loop:∀k d out ts p,k<9->On p ts->rd p.e f (.loop k (d+1) out) ts≠.error bC->∃t q,(∀g,KF f<=g->mE g (.loop k d out) p=some (t,q))/\iu p q t (rd p.e f (.loop k (d+1) out) ts)
 operand:∀d ts p,On p ts->rd p.e f (.operand d) ts≠.error bC->∃t q,(∀g,KF f<=g->mE g (.operand d) p=some (t,q))/\iu p q t (rd p.e f (.operand d) ts)
 args:∀d acc ts p,acc≠[]->On p ts->rd.args p.e f d acc ts≠.error bC->∃t q,(∀g,KF f<=g->qg g d acc p=some (t,q))/\iu p q t (rd.args p.e f d acc ts)
 args0:∀d ts p,On p ts->rd.args p.e f d [] ts≠.error bC->∃t q,(∀g,KF f<=g->mL g d p=some (t,q))/\iu p q t (rd.args p.e f d [] ts)
theorem AO:∀k,(levels.getD k []).contains []=false:=by
 intro k
 have h:∀l∈levels,l.contains ([]:ai)=false:=by decide
 grind
theorem up{f g:Nat}(h:KF (f+1)<=g):∃s,g=s+1/\KF f+1<=s:=⟨g-1,by grind[KF],by grind[KF]⟩
def je(f:Nat):JE f:=by
 induction f with
 |zero =>
  refine⟨fun d ts p _ h=>absurd ?_ h,fun k d ts p _ _ h=>absurd ?_ h,fun k d out ts p _ _ h=>absurd ?_ h,fun d ts p _ h=>absurd ?_ h,fun d J ts p _ _ h=>absurd ?_ h,fun d ts p _ h=>absurd ?_ h⟩<;>simp[rd,rd.args]
 |succ f C =>
  refine⟨fun d ts p m h=>?_,fun k d ts p hk m h=>?_,fun k d out ts p hk m h=>?_,fun d ts p m h=>?_,fun d J ts p Z4 m h=>?_,fun d ts p m h=>?_⟩
  ·rw[rd]at h |-
   by_cases hd:d>60
   ·rw[ae hd]at h |-;have hf:=m.fail 9 p.place aE;refine⟨T.zero,p.fail 9 p.place,fun g c=>?_,by rw[<-m.place];exact hf⟩;obtain⟨g,rfl,c⟩:=up c;rw[mE];unfold RS.aY;rw[ae hd];exact(AD hf.err).2.2 9 g 0 d rfl (by grind[KF])
   ·rw[ab hd]at h |-;have⟨t,q,E,j⟩:=C.level 0 d ts p aK m h;refine⟨t,q,fun g c=>?_,j⟩;obtain⟨g,rfl,c⟩:=up c;rw[mE];grind[mE,RS.aY]
  ·rw[rd]at h |-
   by_cases h9:k=9
   ·rw[ae h9]at h |-;have⟨t,q,E,j⟩:=C.operand (d+1) ts p m h;refine⟨t,q,fun g c=>?_,j⟩;obtain⟨g,rfl,c⟩:=up c
    grind[mE]
   ·rw[ab h9]at h |-
    cases o:rd p.e f (.level (k+1) (d+1)) ts with
    |error x =>
     rw[o]at h
     have hx:x≠bC:=fun B=>h zfP
     have⟨t,q,E,j⟩:=C.level (k+1) d ts p aK m zfk;rw[o]at j;refine⟨t,q,fun g c=>?_,j⟩;obtain⟨g,rfl,c⟩:=up c;rw[mE,ab h9,E g aK];exact(AD (cD.err j)).2.1 g _ _ _ aK
    |ok r =>
     have⟨t',r⟩:=r;rw[o]at h;simp only at h |-;have⟨t,q,E,j⟩:=C.level (k+1) d ts p aK m zfk;rw[o]at j;obtain⟨rfl,j⟩:=j;rw[<-j.2.2]at h |-;have⟨t3,q3,h3,h4⟩:=C.loop k d t r q aK j.1 h;refine⟨t3,q3,fun g c=>?_,iu.tr j h4⟩;obtain⟨g,rfl,c⟩:=up c
     grind[mE]
  ·cases ts with
   |nil =>
    rw[rd];refine⟨out,p,fun g c=>?_,rfl,m.self⟩;obtain⟨g,rfl,c⟩:=up c;rw[mE,ab];rw[m.aH];rintro⟨_,B⟩
    grind[aH,AO]
   |cons t r =>
    rw[rd]at h |-;have hs:p.aH 0=dL t:=m.aH 0
    by_cases hc:t.aj=3/\t.s∈levels.getD k []
    ·rw[ae hc]at h |-
     have w:=m.next
     have z:p.l[p.i]?=some t:=m.at 0;have XH:p.code=0/\(levels.getD k []).contains (p.aH 0)=true:=⟨m.code,by simp_all[dL,ae]⟩;rw[show p.e=p.next.e from rfl]at h |-
     cases o:rd p.next.e f (.level (k+1) (d+1)) r with
     |error x =>
      rw[o]at h
      have hx:x≠bC:=fun B=>h zfP
      have⟨b,q,E,j⟩:=C.level (k+1) d r p.next aK w.1 zfk
      rw[o]at j;refine⟨one 6 t.at_ t.s [out,b],q,fun g c=>?_,w.tr (y:=.error x) j⟩;obtain⟨g,rfl,c⟩:=up c;rw[mE,ae XH,z];simp only;rw[E g aK];exact(AD (cD.err j)).2.1 g _ _ _ aK
     |ok x =>
      have⟨b',W⟩:=x;rw[o]at h;simp only at h |-
      have⟨b,q,E,j⟩:=C.level (k+1) d r p.next aK w.1 zfk
      rw[o]at j;obtain⟨rfl,j⟩:=j;rw[<-j.2.2]at h |-;have⟨t3,q3,h3,h4⟩:=C.loop k d (one 6 t.at_ t.s [out,b]) W q hk j.1 h;refine⟨t3,q3,fun g c=>?_,iu.tr (w.tr j) h4⟩;obtain⟨g,rfl,c⟩:=up c
      grind[mE]
    ·rw[ab hc];refine⟨out,p,fun g c=>?_,rfl,m.self⟩;obtain⟨g,rfl,c⟩:=up c;rw[mE,ab]
     grind[dL,AO]
  ·rw[rd.eq_def]at h |-;simp only at h |-
   by_cases hd:d>60
   ·rw[ae hd]at h |-;have hf:=m.fail 9 p.place aE;refine⟨T.zero,p.fail 9 p.place,fun g c=>?_,by rw[<-m.place];exact hf⟩;obtain⟨g,rfl,c⟩:=up c;rw[mE];unfold RS.aY;rw[ae hd];simp[hf.err,ti hf.err]
   ·rw[ab hd]at h |-
    have F:p.aY d=p:=by grind[RS.aY]
    cases ts with
    |nil =>
     simp only;have B:p.l[p.i]?=none:=m.at 0;refine⟨T.zero,p.fail 7 p.place,fun g c=>?_,?_⟩
     ·grind[up,mE,T.zero,RS.fail,RS.place]
     ·rw[m.place];exact m.fail 7 _ aE
    |cons t r =>
     simp only at h |-;have z:p.l[p.i]?=some t:=m.at 0
     have w:=m.next
     by_cases h3:t.aj=3
     ·rw[ae h3]at h |-
      have M:¬t.aj=1:=by omega
      have N:¬t.aj=2:=by omega
      by_cases hu:t.s=[45]\/t.s=[33]\/t.s=[126]
      ·rw[ae hu]at h |-;rw[show p.e=p.next.e from rfl]at h |-
       cases o:rd p.next.e f (.operand (d+1)) r with
       |error x =>
        rw[o]at h
        have hx:x≠bC:=fun B=>h zfP
        have⟨b,q,E,j⟩:=C.operand (d+1) r p.next w.1 zfk
        rw[o]at j;refine⟨one 5 t.at_ t.s [b],q,fun g c=>?_,w.tr (y:=.error x) j⟩;obtain⟨g,rfl,c⟩:=up c;rw[mE];simp only[F,m.code,z,if_true,ab M,ab N,ae hu]
        grind
       |ok x =>
        have⟨b',W⟩:=x;rw[o]at h;simp only at h |-
        have⟨b,q,E,j⟩:=C.operand (d+1) r p.next w.1 zfk
        rw[o]at j;obtain⟨rfl,j⟩:=j;refine⟨one 5 t.at_ t.s [b],q,fun g c=>?_,rfl,w.tr j⟩;obtain⟨g,rfl,c⟩:=up c;rw[mE];simp only[F,m.code,z,if_true,ab M,ab N,ae hu]
        grind
      ·rw[ab hu]at h |-
       by_cases A:t.s=[40]
       ·rw[ae A]at h |-;rw[show p.e=p.next.e from rfl]at h |-
        cases o:rd p.next.e f (.expr (d+1)) r with
        |error x =>
         rw[o]at h
         have hx:x≠bC:=fun B=>h zfP
         have⟨b,q,E,j⟩:=C.expr (d+1) r p.next w.1 zfk
         rw[o]at j;refine⟨b,q.ba [41],fun g c=>?_,?_⟩
         ·obtain⟨g,rfl,c⟩:=up c;rw[mE];simp only[F,m.code,z,if_true,ab M,ab N,ab hu,ae A]
          grind
         ·rw[iK (cD.err j) aE];exact w.tr (y:=.error x) j
        |ok x =>
         have⟨b',W⟩:=x;rw[o]at h;simp only at h |-
         have⟨b,q,E,j⟩:=C.expr (d+1) r p.next w.1 zfk
         rw[o]at j;obtain⟨rfl,j⟩:=j;have G:=j.1.ba (s:=[41]) aE;have u:=(w.tr j).tr G;rw[j.2.2]at u;refine⟨b,q.ba [41],fun g c=>?_,?_⟩
         ·obtain⟨g,rfl,c⟩:=up c;rw[mE];simp only[F,m.code,z,if_true,ab M,ab N,ab hu,ae A]
          grind
         ·cases O:ba p.next.e [41] W with
          |error x=>rw[O]at u;exact u
          |ok r2=>rw[O]at u;exact⟨rfl,u⟩
       ·rw[ab A]at h |-;refine⟨T.zero,p.fail 7 t.at_,fun g c=>?_,m.fail 7 _ aE⟩;obtain⟨g,rfl,c⟩:=up c;rw[mE];simp only[F,m.code,z,if_true,ab M,ab N,ab hu,ab A]
     ·rw[ab h3]at h |-
      by_cases E:t.aj=1
      ·rw[ae E];refine⟨_,p.next,fun g c=>?_,rfl,w⟩;obtain⟨g,rfl,c⟩:=up c;rw[mE];simp only[F,m.code,z,if_true,ae E]
      ·rw[ab E]at h |-
       by_cases j:t.aj=2
       ·by_cases H:t.s.length>12
        ·have Q:name p.e (t::r)=.error (8,t.at_):=by simp[name,j,H]
         rw[Q]at h |-;have hf:=m.fail 8 t.at_ aE;refine⟨one 2 t.at_ [] [],p.fail 8 t.at_,fun g c=>?_,hf⟩;obtain⟨g,rfl,c⟩:=up c
         have Vt:p.name=([],p.fail 8 t.at_):=by unfold RS.name;simp[m.code,z,j,H]
         rw[mE];simp only[F,m.code,z,if_true,ab E,ae j,Vt];obtain⟨g,rfl⟩:∃g',g=g'+1:=⟨g-1,by omega⟩;rw[mE,ab (by rw[mq hf.err];decide),ab (by rw[mq hf.err];decide)]
        ·have Q:name p.e (t::r)=.ok (t.s,r):=by simp[name,j,H]
         have Vt:p.name=(t.s,p.next):=by unfold RS.name;simp[m.code,z,j,H]
         rw[Q]at h |-;simp only at h |-
         have Av:p.next.aH 0=aH r 0:=w.1.aH 0
         have S:∀(t':T)(q:RS),(∀g,KF f<=g->mE (g+1) (.named t.at_ t.s d) p.next=some (t',q))->∀g,KF (f+1)<=g->mE g (.operand d) p=some (t',q):=by
          intro t' q hk g c;obtain⟨g,rfl,c⟩:=up c;rw[mE];simp only[F,m.code,z,if_true,ab E,ae j,Vt];obtain⟨g,rfl⟩:∃g',g=g'+1:=⟨g-1,by omega⟩
          grind
         by_cases A:aH r 0=[91]
         ·rw[ae A]at h |-;have⟨tb,R,_⟩:=ep aE A;have v:=w.1;rw[R]at v
          have v:=w.tr v.next
          rw[show p.e=p.next.next.e from rfl]at h |-
          cases o:rd p.next.next.e f (.expr (d+1)) r.tail with
          |error x =>
           rw[o]at h
           have hx:x≠bC:=fun B=>h zfP
           have⟨b,q,I,n⟩:=C.expr (d+1) r.tail p.next.next v.1 zfk
           rw[o]at n;refine⟨one 3 t.at_ t.s [b],q.ba [93],S _ _ fun g c=>?_,?_⟩
           ·rw[mE,ae zfk,I g c]
           ·rw[iK (cD.err n) aE];exact v.tr (y:=.error x) n
          |ok x =>
           have⟨b',W⟩:=x;rw[o]at h;simp only at h |-
           have⟨b,q,I,n⟩:=C.expr (d+1) r.tail p.next.next v.1 zfk
           rw[o]at n;obtain⟨rfl,n⟩:=n;have G:=n.1.ba (s:=[93]) aE;have u:=(v.tr n).tr G;rw[n.2.2]at u;refine⟨one 3 t.at_ t.s [b],q.ba [93],S _ _ fun g c=>?_,?_⟩
           ·rw[mE,ae zfk,I g c]
           ·cases O:ba p.next.next.e [93] W with
            |error x=>rw[O]at u;exact u
            |ok r2=>rw[O]at u;exact⟨rfl,u⟩
         ·rw[ab A]at h |-
          by_cases hc:aH r 0=[40]
          ·rw[ae hc]at h |-;have⟨tb,R,_⟩:=ep aE hc;have v:=w.1;rw[R]at v
           have v:=w.tr v.next
           rw[show p.e=p.next.next.e from rfl]at h |-
           cases o:rd.args p.next.next.e f (d+1) [] r.tail with
           |error x =>
            rw[o]at h
            have hx:x≠bC:=fun B=>h zfP
            have⟨b,q,I,n⟩:=C.args0 (d+1) r.tail p.next.next v.1 zfk
            rw[o]at n;refine⟨one 4 t.at_ t.s b,q,S _ _ fun g c=>?_,v.tr (y:=.error x) n⟩;rw[mE,ab zfk,ae zfk,I g c]
           |ok x =>
            have⟨b',W⟩:=x;rw[o]at h
            have⟨b,q,I,n⟩:=C.args0 (d+1) r.tail p.next.next v.1 zfk
            rw[o]at n;obtain⟨rfl,n⟩:=n;refine⟨one 4 t.at_ t.s b,q,S _ _ fun g c=>?_,rfl,v.tr n⟩;rw[mE,ab zfk,ae zfk,I g c]
          ·rw[ab hc]at h |-;refine⟨one 2 t.at_ t.s [],p.next,S _ _ fun g c=>?_,rfl,w⟩;rw[mE,ab zfk,ab zfk]
       ·have Q:name p.e (t::r)=.error (7,t.at_):=by simp[name,j]
        rw[Q]at h |-;have:=m.kinds t (bR z);omega
  ·rw[rd.args]at h |-;have Av:p.aH 0=aH ts 0:=m.aH 0
   by_cases A:aH ts 0=[41]
   ·rw[ae A];have G:=m.ba (s:=[41]) aE;unfold Go.Xp.ba at G;rw[ae A]at G;refine⟨J,p.ba [41],fun g c=>?_,rfl,G⟩;obtain⟨g,rfl,c⟩:=up c
    grind[qg,RS.ba]
   ·rw[ab A,ab Z4]at h |-
    by_cases hc:aH ts 0=[44]
    ·have CN:Go.Xp.ba p.e [44] ts=.ok ts.tail:=by grind[ba]
     rw[CN]at h |-;simp only at h |-;have⟨tb,R,_⟩:=ep aE hc;have w:=m;rw[R]at w
     have w:=w.next
     rw[show p.e=p.next.e from rfl]at h |-
     cases o:rd p.next.e f (.expr d) ts.tail with
     |error x =>
      rw[o]at h
      have hx:x≠bC:=fun B=>h zfP
      have⟨b,q,I,n⟩:=C.expr d ts.tail p.next w.1 zfk
      rw[o]at n;refine⟨J++[b],q,fun g c=>?_,w.tr (y:=.error x) n⟩;obtain⟨g,rfl,c⟩:=up c;rw[qg,ae zfk,I g aK];exact zcq
     |ok x =>
      have⟨b',W⟩:=x;rw[o]at h;simp only at h |-
      have⟨b,q,I,n⟩:=C.expr d ts.tail p.next w.1 zfk
      rw[o]at n;obtain⟨rfl,n⟩:=n;rw[<-n.2.2]at h |-;have⟨t3,q3,h3,h4⟩:=C.args d (J++[b]) W q zfm n.1 h;refine⟨t3,q3,fun g c=>?_,iu.tr (w.tr n) h4⟩;obtain⟨g,rfl,c⟩:=up c
      grind[qg]
    ·have CN:Go.Xp.ba p.e [44] ts=.error (7,place p.e ts):=by grind[ba]
     rw[CN];have G:=m.ba (s:=[41]) aE;unfold Go.Xp.ba at G;rw[ab A]at G;refine⟨J,p.ba [41],fun g c=>?_,G⟩;obtain⟨g,rfl,c⟩:=up c
     grind[qg,RS.ba]
  ·rw[rd.args]at h |-;have Av:p.aH 0=aH ts 0:=m.aH 0
   by_cases A:aH ts 0=[41]
   ·rw[ae A];have G:=m.ba (s:=[41]) aE;unfold Go.Xp.ba at G;rw[ae A]at G;refine⟨[],p.ba [41],fun g c=>?_,rfl,G⟩;obtain⟨g,rfl,c⟩:=up c
    grind[mL,RS.ba]
   ·rw[ab A,ae rfl]at h |-;simp only at h |-
    cases o:rd p.e f (.expr d) ts with
    |error x =>
     rw[o]at h
     have hx:x≠bC:=fun B=>h zfP
     have⟨b,q,I,n⟩:=C.expr d ts p m zfk;rw[o]at n;refine⟨[b],q,fun g c=>?_,n⟩;obtain⟨g,rfl,c⟩:=up c;rw[mL,ab zfk,I g aK];exact zcq
    |ok x =>
     have⟨b',W⟩:=x;rw[o]at h;simp only at h |-;have⟨b,q,I,n⟩:=C.expr d ts p m zfk;rw[o]at n;obtain⟨rfl,n⟩:=n;rw[<-n.2.2]at h |-;have⟨t3,q3,h3,h4⟩:=C.args d ([]++[b]) W q zfm n.1 h;refine⟨t3,q3,fun g c=>?_,iu.tr n h4⟩;obtain⟨g,rfl,c⟩:=up c
     grind[mL]
end Go.Sp
namespace Go.Xp
def Yo(e:Int):∀f,(∀j ts,rd e f j ts=.error bC\/rd e (f+1) j ts=rd e f j ts)/\(∀d q ts,rd.args e f d q ts=.error bC\/rd.args e (f+1) d q ts=rd.args e f d q ts):=by
 intro f
 induction f with
 |zero=>exact⟨fun j ts=>.inl (by simp[rd]),fun d q ts=>.inl zfQ⟩
 |succ f s =>
  have⟨l,C⟩:=s;refine⟨fun j ts=>?_,fun d q ts=>?_⟩
  ·rw[rd.eq_def e (f+1+1),rd.eq_def e (f+1)]
   cases j with
   |expr d =>
    grind
   |level k d =>
    grind
   |loop k d out =>
    grind
   |operand d =>
    simp only;split
    ·simp
    ·cases ts with
     |nil=>simp
     |cons t r =>
      grind
  grind[rd.args]
def ID{e:Int}{f H:Nat}{j:tS}{ts:List Tok}(h:rd e f j ts≠.error bC)(hf:f<=H):rd e H j ts=rd e f j ts:=by
 obtain⟨k,rfl⟩:=Nat.exists_eq_add_of_le hf;clear hf
 induction k with
 |zero=>rfl
 |succ k q =>
  rcases(Yo e (f+k)).1 j ts with z|z
  ·grind
  grind
def BG{e:Int}{f d:Nat}{ts:List Tok}(h:20*ts.length+12<=f):rd e f (.expr d) ts=expr e d ts:=by
 have M:rd e (20*ts.length+12) (.expr d) ts≠.error bC:=yt (j:=.expr d) trivial (a8 _);rw[ID M h];unfold expr nG;exact(ID M aK).symm
def Ur(t:T):Prop:=t.n.aj=3->∃a,t.au=[a]
def Np(e:Int):∀f j,(∀k d out,j≠.loop k d out)->∀t r,rd e f j []≠.ok (t,r):=by
 intro f
 induction f with
 |zero=>simp[Rd,rd,Er]
 |succ f q =>
  intro j o t r h;rw[rd.eq_def]at h
  grind
def Nn(e:Int):∀f j ts t r,(∀k d out,j=.loop k d out->Ur out)->rd e f j ts=.ok (t,r)->Ur t:=by
 intro f
 induction f with
 |zero=>simp[Ur,Rd,rd,Er]
 |succ f u =>
  intro j ts t r o h;rw[rd.eq_def]at h
  cases j with
  |expr d =>
   grind
  |level k d =>
   grind
  |loop k d out =>
   cases ts with
   |nil=>grind
   |cons a G =>
    simp only at h;split at h
    ·split at h
     ·cases h
     ·exact u _ _ _ _ (fun v W q s=>by cases s;intro I;exact absurd I (by simp[one,T.n])) h
    grind
  |operand d =>
   simp only at h;split at h
   ·cases h
   ·cases ts with
    |nil=>cases h
    |cons a G =>
     simp only at h;split at h
     ·split at h
      ·split at h
       ·cases h
       ·cases h;intro I;exact ze0
      grind
     ·split at h
      ·cases h;intro I;exact absurd I (by simp[T.n])
      ·split at h
       ·cases h
       ·split at h
        ·split at h
         ·cases h
         ·split at h
          ·cases h
          ·cases h;exact fun _=>⟨_,rfl⟩
        ·split at h
         ·split at h
          ·cases h
          ·cases h;intro I;exact ze0
         ·cases h;intro I;exact ze0
end Go.Xp
namespace Go.Sp
open Go.Xp
def X2{d:Nat}{ts:List Tok}{p:RS}(R:On p ts):∃t q,mX d p=some (t,q)/\iu p q t (expr p.e d ts):=by
 have W:ts.length<=p.l.length:=by rw[<-R.rest,n2];omega
 have s:rd p.e (20*ts.length+12) (.expr d) ts≠.error bC:=yt (j:=.expr d) trivial (a8 _);have⟨t,q,z,v⟩:=(je _).expr d ts p R s;rw[BG (a8 _)]at v;exact⟨t,q,z _ (by grind[KF,fe]),v⟩
def EX{d:Nat}{p:RS}(h:p.code≠0):mX d p=some (T.zero,p):=VX h (by simp[fe])
def EW{p:RS}(h:p.code≠0){g d:Nat}(hg:2<=g):mS g (.block d) p=some (one 14 p.place [] [],p):=by
 obtain⟨g,rfl⟩:∃r,g=r+2:=⟨g-2,by omega⟩;rw[mS,qP h,iK h aE];simp only[mB,h,false_and,if_false];rw[iK h aE]
def NH{p:RS}(h:p.code≠0){g d:Nat}(hg:1<=g):mS g (.stmt d) p=some (one 12 p.place [] [T.zero],p):=by
 obtain⟨g,rfl⟩:∃r,g=r+1:=⟨g-1,by omega⟩;rw[mS,qP h];simp only[mq h];rw[ab aE,ab aE,ab aE,ab (fun x=>h x.1),EX h]
 have A:¬(T.zero.n.aj=3/\T.zero.n.at_=p.place/\p.aH 0=[61]):=fun x=>absurd x.1 aE
 simp only;rw[ab A,iK h aE]
structure JS'(f:Nat):Prop where
 block:∀d ts p,On p ts->rs p.e f (.block d) ts≠.error bC->∃t q,(∀g,KF f<=g->mS g (.block d) p=some (t,q))/\iu p q t (rs p.e f (.block d) ts)
 stmt:∀d ts p,On p ts->rs p.e f (.stmt d) ts≠.error bC->∃t q,(∀g,KF f<=g->mS g (.stmt d) p=some (t,q))/\iu p q t (rs p.e f (.stmt d) ts)
 body:∀d acc ts p,On p ts->rs.body p.e f d acc ts≠.error bC->∃t q,(∀g,KF f<=g->mB g d acc p=some (t,q))/\iu p (q.ba [125]) t (rs.body p.e f d acc ts)
def J8{d:Nat}{ts:List Tok}{p:RS}(R:On p ts):(∃t q r,mX d p=some (t,q)/\expr p.e d ts=.ok (t,r)/\cD p q (.ok r))\/(∃t q x,mX d p=some (t,q)/\expr p.e d ts=.error x/\cD p q (.error x)):=by
 have⟨t,q,z,v⟩:=X2 (d:=d) R
 cases i:expr p.e d ts with
 |error x=>rw[i]at v;exact .inr ⟨t,q,x,z,rfl,v⟩
 |ok y =>
  have⟨O,r⟩:=y;rw[i]at v;obtain⟨rfl,v⟩:=v
  grind
def yl{s:ai}{ts:List Tok}{p:RS}(R:On p ts)(o:s≠[]):(∃r,Go.Xp.ba p.e s ts=.ok r/\cD p (p.ba s) (.ok r))\/(∃x,Go.Xp.ba p.e s ts=.error x/\cD p (p.ba s) (.error x)):=by
 have h:=R.ba o
 cases i:Go.Xp.ba p.e s ts with
 |ok r=>grind
 |error x=>grind
def Ta{ts:List Tok}{p:RS}(R:On p ts):(∃r,Go.Xp.name p.e ts=.ok (p.name.1,r)/\cD p p.name.2 (.ok r))\/(∃x,Go.Xp.name p.e ts=.error x/\cD p p.name.2 (.error x)):=by
 rcases R.name with h|h
 ·cases i:Go.Xp.name p.e ts with
  |ok y =>
   have⟨s,r⟩:=y;rw[i]at h;obtain⟨rfl,h⟩:=h
   grind
  |error x=>rw[i]at h;exact .inr ⟨x,rfl,h⟩
 grind
def zn{d:Nat}{ts:List Tok}{p:RS}{b:ai}(R:On p ts)(s:b≠[]):∃t q,mX d p=some (t,q)/\((∃r G,expr p.e d ts=.ok (t,r)/\Go.Xp.ba p.e b r=.ok G/\cD p (q.ba b) (.ok G))\/(∃r x,expr p.e d ts=.ok (t,r)/\Go.Xp.ba p.e b r=.error x/\cD p (q.ba b) (.error x))\/(∃x,expr p.e d ts=.error x/\cD p (q.ba b) (.error x))):=by
 rcases J8 (d:=d) R with⟨t,q,r,z,v,I⟩|⟨t,q,x,z,v,I⟩
 ·refine⟨t,q,z,?_⟩
  rcases yl I.1 s with⟨G,c,F⟩|⟨x,c,F⟩
  ·rw[I.2.2]at c;exact .inl ⟨r,G,v,c,I.tr F⟩
  ·rw[I.2.2]at c;exact .inr (.inl ⟨r,x,v,c,I.tr F⟩)
 ·exact⟨t,q,z,.inr (.inr ⟨x,v,by rw[iK I.err s];exact I⟩)⟩
theorem On.oq{ts:List Tok}{p:RS}(R:On p ts):p.oq=(match ts with|t::_=>decide (t.aj=2)|[]=>false):=by
 have h:=R.at 0
 grind[RS.oq]
section
variable{d:Nat}{ts:List Tok}{p:RS}
def EK{a b:ai}(R:On p ts)(ha:a≠[])(u:b≠[]):∃t q,mX d (p.ba a)=some (t,q)/\((∃r,inner p.e d a b ts=.ok (t,r)/\cD p (q.ba b) (.ok r))\/∃x,inner p.e d a b ts=.error x/\cD p (q.ba b) (.error x)):=by
 unfold Go.Xp.inner
 rcases yl R ha with⟨r,z,v⟩|⟨x,z,v⟩
 ·rw[z];have⟨t,q,I,c⟩:=zn (d:=d) (b:=b) v.1 u;rw[v.2.2]at c;refine⟨t,q,I,?_⟩;simp only
  rcases c with⟨r,G,s,i,w⟩|⟨r,x,s,i,w⟩|⟨x,s,w⟩
  ·rw[s];simp only;rw[i];exact .inl ⟨G,rfl,v.tr w⟩
  ·rw[s];simp only;rw[i];exact zbx
  ·rw[s];exact zbx
 ·rw[z];exact⟨T.zero,p.ba a,EX v.err,.inr ⟨x,rfl,by rw[iK v.err u];exact v⟩⟩
def Fs(R:On p ts):∃t q,mX d (p.name.2.ba [61])=some (t,q)/\((∃r,l9 p.e d ts=.ok ((p.name.1,t),r)/\cD p (q.ba [59]) (.ok r))\/∃x,l9 p.e d ts=.error x/\cD p (q.ba [59]) (.error x)):=by
 unfold Go.Xp.l9
 rcases Ta R with⟨r,z,v⟩|⟨x,z,v⟩
 ·rw[z];have⟨t,q,I,c⟩:=EK (d:=d) (a:=[61]) (b:=[59]) v.1 aE aE;rw[v.2.2]at c;refine⟨t,q,I,?_⟩;simp only
  rcases c with⟨r,s,w⟩|⟨x,s,w⟩
  ·rw[s];exact .inl ⟨r,rfl,v.tr w⟩
  ·rw[s];exact zbx
 ·rw[z];refine⟨T.zero,p.name.2,by rw[iK v.err aE];exact EX v.err,.inr ⟨x,rfl,by rw[iK v.err aE];exact v⟩⟩
end
def js(f:Nat):JS' f:=by
 induction f with
 |zero=>exact⟨fun d z p _ h=>absurd zf3 h,fun d z p _ h=>absurd zf3 h,fun d R z p _ h=>absurd zfQ h⟩
 |succ f C =>
  refine⟨fun d z p w h=>?_,fun d z p w h=>?_,fun d R z p w h=>?_⟩
  ·rw[rs]at h |-
   by_cases hd:d>60
   ·rw[ae hd]at h |-;have hf:=w.fail 9 p.place aE;refine⟨one 14 (p.fail 9 p.place).place [] [],p.fail 9 p.place,fun g j=>?_,by rw[<-w.place];exact hf⟩
    have hdf:p.aY d=p.fail 9 p.place:=by grind[RS.aY]
    have:=EW (g:=g) (d:=d) hf.err zf4;obtain⟨g,rfl,j⟩:=up j;rw[mS]at this |-;rw[qP hf.err]at this
    grind
   ·rw[ab hd]at h |-
    have E:p.aY d=p:=by grind[RS.aY]
    rcases yl w (s:=[123]) aE with⟨r,B,i⟩|⟨x,B,i⟩
    ·rw[B]at h |-;simp only at h |-;rw[<-i.2.2]at h |-
     have J:rs.body (p.ba [123]).e f (d+1) [] r≠.error bC:=fun S=>h (by rw[S])
     have⟨l,q,m,u⟩:=C.body (d+1) [] r (p.ba [123]) i.1 J
     have I:place (p.ba [123]).e z=p.place:=by rw[i.2.2,w.place]
     refine⟨one 14 p.place [] l,q.ba [125],fun g j=>?_,?_⟩
     ·obtain⟨g,rfl,j⟩:=up j
      grind[mS]
     ·cases he:rs.body (p.ba [123]).e f (d+1) [] r with
      |error x=>rw[he]at u;exact i.tr (y:=.error x) u
      |ok y=>have⟨l',r'⟩:=y;rw[he]at u;obtain⟨rfl,u⟩:=u;rw[I];exact⟨rfl,i.tr u⟩
    ·rw[B]at h |-;refine⟨one 14 p.place [] [],p.ba [123],fun g j=>?_,i⟩;obtain⟨g,rfl,j⟩:=up j;rw[mS,E];obtain⟨g,rfl⟩:∃g',g=g'+1:=⟨g-1,by omega⟩;simp only[mB,i.err,false_and,if_false];rw[iK i.err aE]
  ·rw[rs]at h |-
   by_cases hd:d>60
   ·rw[ae hd]at h |-;have hf:=w.fail 9 p.place aE
    have hdf:p.aY d=p.fail 9 p.place:=by grind[RS.aY]
    refine⟨one 12 (p.fail 9 p.place).place [] [T.zero],p.fail 9 p.place,fun g j=>?_,by rw[<-w.place];exact hf⟩;have:=NH (g:=g) (d:=d) hf.err zf4;obtain⟨g,rfl,j⟩:=up j;rw[mS]at this |-;rw[qP hf.err]at this
    grind
   ·rw[ab hd]at h |-
    have E:p.aY d=p:=by grind[RS.aY]
    have Av:p.aH 0=aH z 0:=w.aH 0;have abj:p.aH 1=aH z 1:=w.aH 1;have I:=w.place;simp only at h |-
    by_cases hv:aH z 0=lX
    ·rw[ae hv];have⟨tv,O,_⟩:=ep aE hv;have o:=w;rw[O]at o
     have o:=o.next
     rw[show p.e=p.next.e from rfl]
     rcases Fs (d:=d+1) o.1 with⟨t,q,B,⟨r,i,m⟩|⟨x,i,m⟩⟩
     ·rw[i];refine⟨one 13 p.place p.next.name.1 [t],q.ba [59],fun g j=>?_,by rw[I];rfl,o.tr m⟩;obtain⟨g,rfl,j⟩:=up j;rw[mS,E]
      grind
     ·rw[i];refine⟨one 13 p.place p.next.name.1 [t],q.ba [59],fun g j=>?_,o.tr (y:=.error x) m⟩;obtain⟨g,rfl,j⟩:=up j;rw[mS,E]
      grind
    rw[ab hv]at h |-
    by_cases W:aH z 0=gb\/aH z 0=gz
    ·rw[ae W]at h |-
     obtain⟨tv,O,hk3,hts⟩:∃t,z=t::z.tail/\t.aj=3/\t.s=aH z 0:=by
      rcases W with W|W
      ·have⟨t,B,i,m⟩:=ep aE W;grind
      ·have⟨t,B,i,m⟩:=ep aE W;grind
     have o:=w;rw[O]at o
     have o:=o.next
     have L7:p.ck=if aH z 0=gb then 9 else 10:=by grind[RS.ck]
     have Q:∀(t:T)(q:RS),(∀g,KF f<=g->mS (g+1) (.cond p.place d) p=some (t,q))->∀g,KF (f+1)<=g->mS g (.stmt d) p=some (t,q):=by
      intro t q hk g j;obtain⟨g,rfl,j⟩:=up j;rw[mS,E];rw[ab zfk,ae zfk];obtain⟨g,rfl⟩:∃g',g=g'+1:=⟨g-1,by omega⟩
      grind
     rcases EK (d:=d+1) (a:=[40]) (b:=[41]) o.1 aE aE with⟨c,q,B,⟨r,i,m⟩|⟨x,i,m⟩⟩
     ·rw[show p.next.e=p.e from rfl]at i;rw[i]at h |-;simp only at h |-;have m:=o.tr m
      have J:rs p.e f (.block (d+1)) r≠.error bC:=fun S=>h (by rw[S])
      rw[<-m.2.2]at J;have⟨b,q2,u,A⟩:=C.block (d+1) r (q.ba [41]) m.1 J;rw[m.2.2]at A
      cases he:rs p.e f (.block (d+1)) r with
      |error x =>
       rw[he]at A;refine⟨one p.ck p.place [] [c,b],q2,Q _ _ fun g j=>?_,m.tr (y:=.error x) A⟩;rw[mS,B];simp only;rw[u g j];simp only;rw[ab (by rw[mq (cD.err A)];simp[RS.ck,ai,iz])]
      |ok y =>
       have⟨b',r2⟩:=y;rw[he]at A h;obtain⟨rfl,A⟩:=A;simp only at h |-;have A:=m.tr A;have yU:q2.aH 0=aH r2 0:=A.1.aH 0
       by_cases hi:aH z 0=gb
       ·rw[ae hi]at h L7 |-
        by_cases rN:aH r2 0=iz
        ·rw[ae rN]at h |-;have⟨te,Mk,_⟩:=ep aE rN;have F:=A.1;rw[Mk]at F
         have F:=A.tr F.next
         have J:rs p.e f (.block (d+1)) r2.tail≠.error bC:=fun S=>h (by rw[S])
         rw[<-F.2.2]at J
         have⟨b2,q3,h6,h7⟩:=C.block (d+1) r2.tail q2.next F.1 J
         rw[F.2.2]at h7;refine⟨one p.ck p.place [] [c,b,b2],q3,Q _ _ fun g j=>?_,?_⟩
         ·grind[mS,RS.place,one,RS.ck]
         ·cases xg:rs p.e f (.block (d+1)) r2.tail with
          |error x=>rw[xg]at h7;exact F.tr (y:=.error x) h7
          |ok y=>have⟨b3,r3⟩:=y;rw[xg]at h7;obtain⟨rfl,h7⟩:=h7;exact⟨by grind,F.tr h7⟩
        ·rw[ab rN];refine⟨one p.ck p.place [] [c,b],q2,Q _ _ fun g j=>?_,by grind,A⟩
         grind[mS,RS.place,one,RS.ck]
       ·rw[ab hi]at L7 |-;refine⟨one p.ck p.place [] [c,b],q2,Q _ _ fun g j=>?_,by grind,A⟩
        grind[mS,RS.place,one,RS.ck]
     ·rw[show p.next.e=p.e from rfl]at i;rw[i]at h |-;have m:=o.tr (y:=.error x) m;refine⟨one p.ck p.place [] [c,one 14 (q.ba [41]).place [] []],q.ba [41],Q _ _ fun g j=>?_,m⟩;rw[mS,B];simp only;rw[EW m.err zf4];simp only;rw[ab (by rw[mq m.err];simp[RS.ck,ai,iz])]
    rw[ab W]at h |-
    have hcp:¬(p.aH 0=gb\/p.aH 0=gz):=by grind
    by_cases hr:aH z 0=gK
    ·rw[ae hr];have⟨tv,O,_⟩:=ep aE hr;have o:=w;rw[O]at o
     have o:=o.next
     have⟨t,q,B,i⟩:=zn (d:=d+1) (b:=[59]) o.1 aE;rw[show p.next.e=p.e from rfl]at i;refine⟨one 11 p.place [] [t],q.ba [59],fun g j=>?_,?_⟩
     ·obtain⟨g,rfl,j⟩:=up j
      exact zeh
     ·rcases i with⟨r,r',i,m,u⟩|⟨r,x,i,m,u⟩|⟨x,i,u⟩
      ·rw[i];simp only;rw[m];exact⟨by rw[I],o.tr u⟩
      ·rw[i];simp only;rw[m];exact zeU
      ·rw[i];exact zeU
    rw[ab hr]at h |-
    have hrp:¬p.aH 0=gK:=by grind
    have hvp:¬p.aH 0=lX:=by grind
    have Q8:=w.oq
    cases z with
    |nil =>
     have N:¬(p.code=0/\p.oq=true/\p.aH 1=[61]):=fun hx=>by grind
     rcases J8 (d:=d+1) w with⟨t,q,r,B,i,m⟩|⟨t,q,x,B,i,m⟩
     ·exact ze7
     ·have G:¬(t.n.aj=3/\t.n.at_=p.place/\q.aH 0=[61]):=by rw[mq m.err];simp
      refine⟨one 12 p.place [] [t],q.ba [59],fun g j=>?_,by unfold simple;rw[i,iK m.err aE];exact m⟩;obtain⟨g,rfl,j⟩:=up j
      exact zeh
    |cons a r0 =>
     simp only[simple]at h |-;simp only at Q8
     by_cases M:a.aj=2/\aH (a::r0) 1=[61]
     ·rw[ae M];have N:p.code=0/\p.oq=true/\p.aH 1=[61]:=⟨w.code,by grind,by grind⟩
      rcases Fs (d:=d+1) w with⟨t,q,B,⟨r,i,m⟩|⟨x,i,m⟩⟩
      ·rw[i];refine⟨one 7 p.place p.name.1 [t],q.ba [59],fun g j=>?_,by rw[I];rfl,m⟩;obtain⟨g,rfl,j⟩:=up j;rw[mS,E]
       grind
      ·rw[i];refine⟨one 7 p.place p.name.1 [t],q.ba [59],fun g j=>?_,m⟩;obtain⟨g,rfl,j⟩:=up j;rw[mS,E]
       grind
     ·rw[ab M]
      have N:¬(p.code=0/\p.oq=true/\p.aH 1=[61]):=fun hx=>M ⟨by grind,by grind⟩
      have aaj:p.place=a.at_:=I
      rcases J8 (d:=d+1) w with⟨t,q,r,B,i,m⟩|⟨t,q,x,B,i,m⟩
      ·rw[i];simp only;have yU:q.aH 0=aH r 0:=m.1.aH 0
       by_cases H:t.n.aj=3/\t.n.at_=a.at_/\aH r 0=[61]
       ·rw[ae H]
        have G:t.n.aj=3/\t.n.at_=p.place/\q.aH 0=[61]:=by grind
        have⟨te,Mk,_⟩:=ep aE H.2.2;have o:=m.1;rw[Mk]at o
        have o:=m.tr o.next
        obtain⟨ix,Md⟩:=Nn _ _ _ _ _ _ (fun k d out hj=>by cases hj) i H.1
        have HR:∀ts',Go.Xp.inner p.e (d+1) [61] [59] ts'=Go.Xp.inner p.e (d+1) [61] [59] ts':=fun _=>rfl
        have CN:Go.Xp.ba p.e [61] r=.ok r.tail:=by grind[ba]
        have⟨v,q2,u,A⟩:=zn (d:=d+1) (b:=[59]) o.1 aE;rw[o.2.2]at A;refine⟨one 8 p.place t.n.s [ix,v],q2.ba [59],fun g j=>?_,?_⟩
        ·obtain⟨g,rfl,j⟩:=up j;rw[mS,E]
         grind
        ·unfold Go.Xp.inner;rw[CN];simp only
         rcases A with⟨r2,r',i,m,u⟩|⟨r2,x,i,m,u⟩|⟨x,i,u⟩
         ·rw[i];simp only;rw[m];exact⟨by grind,o.tr u⟩
         ·rw[i];simp only;rw[m];exact zeU
         ·rw[i];exact zeU
       ·rw[ab H]
        have G:¬(t.n.aj=3/\t.n.at_=p.place/\q.aH 0=[61]):=by grind
        refine⟨one 12 p.place [] [t],q.ba [59],fun g j=>?_,?_⟩
        ·obtain⟨g,rfl,j⟩:=up j
         exact zeh
        ·rcases yl m.1 (s:=[59]) aE with⟨r',u,A⟩|⟨x,u,A⟩
         ·rw[m.2.2]at u;rw[u];exact⟨by rw[aaj],m.tr A⟩
         ·rw[m.2.2]at u;rw[u];exact m.tr (y:=.error x) A
      ·rw[i]
       have G:¬(t.n.aj=3/\t.n.at_=p.place/\q.aH 0=[61]):=by rw[mq m.err];simp
       refine⟨one 12 p.place [] [t],q.ba [59],fun g j=>?_,by rw[iK m.err aE];exact m⟩;obtain⟨g,rfl,j⟩:=up j
       exact zeh
  ·rw[rs.body]at h |-;have Av:p.aH 0=aH z 0:=w.aH 0
   by_cases J:aH z 0=[125]
   ·rw[ae J];have hm:=w.ba (s:=[125]) aE;unfold Go.Xp.ba at hm;rw[ae J]at hm;refine⟨R,p,fun g j=>?_,rfl,hm⟩;obtain⟨g,rfl,j⟩:=up j
    grind[mB]
   ·rw[ab J]at h |-
    have hs:rs p.e f (.stmt d) z≠.error bC:=fun S=>h (by rw[S])
    have⟨a,q,B,i⟩:=C.stmt d z p w hs;have W:p.code=0/\¬p.aH 0=[125]:=⟨w.code,by grind⟩
    cases he:rs p.e f (.stmt d) z with
    |error x =>
     rw[he]at i h;refine⟨R++[a],q,fun g j=>?_,by rw[iK (cD.err i) aE];exact i⟩;obtain⟨g,rfl,j⟩:=up j;rw[mB,ae W,B g aK];simp only;obtain⟨g,rfl⟩:∃g',g=g'+1:=⟨g-1,by omega⟩;rw[mB,ab (fun S=>cD.err i S.1)]
    |ok y =>
     have⟨a',r⟩:=y;rw[he]at i h;obtain⟨rfl,i⟩:=i;simp only at h |-;rw[<-i.2.2]at h |-;have⟨l,q3,m,u⟩:=C.body d (R++[a]) r q i.1 h;refine⟨l,q3,fun g j=>?_,iu.tr i u⟩;obtain⟨g,rfl,j⟩:=up j
     grind[mB]
end Go.Sp
namespace Go.Im
open Go.Xp Go.Sp
def tok(p:RS)(k:Nat):Tok:=match p.l[p.i+k]? with|some t=>t|none=>⟨0,0,[],p.e⟩
def is(p:RS)(k:Nat)(s:ai):Bool:=(tok p k).aj==3&&(tok p k).s==s
def lB(p:RS):RS:=p.fail 7 (tok p 0).at_
def want(p:RS)(s:ai):RS:=if p.code=0 then(if is p 0 s=true then p.next else lB p)else p
def bZ(p:RS):RS:=if p.code=0 then(if(tok p 0).aj=2 then(if(tok p 0).s.length>12 then p.fail 8 (tok p 0).at_ else p.next)else lB p)else p
def cK(p:RS)(d:Nat):RS:=if d>60 then p.fail 9 (tok p 0).at_ else p
mutual
def iE:Nat->tS->RS->Option (T × RS)
 |0,_,_=>none
 |f+1,.expr d,p=>if(cK p d).code=0 then iE f (.level 0 (d+1)) (cK p d)else some (T.zero,cK p d)
 |f+1,.level k d,p =>
  if k=9 then iE f (.operand d) p
  else match iE f (.level (k+1) d) p with
   |none=>none
   |some (out,p)=>iE f (.loop k d out) p
 |f+1,.loop k d out,p =>
  if p.code=0/\(tok p 0).aj=3/\(levels.getD k []).contains (tok p 0).s=true then
   match iE f (.level (k+1) d) p.next with
   |none=>none
   |some (b,q)=>iE f (.loop k d (one 6 (tok p 0).at_ (tok p 0).s [out,b])) q
  else some (out,p)
 |f+1,.operand d,p =>
  if(cK p d).code=0 then
   if is p 0 [45]=true\/is p 0 [33]=true\/is p 0 [126]=true then match iE f (.operand (d+1)) p.next with
    |none=>none
    |some (a,q)=>some (one 5 (tok p 0).at_ (tok p 0).s [a],q)
   else if(tok p 0).aj=1 then some (.mk ⟨1,(tok p 0).at_,(tok p 0).n,[],[]⟩ [],p.next)
   else if is p 0 [40]=true then match iE f (.expr (d+1)) p.next with
    |none=>none
    |some (a,q)=>some (a,want q [41])
   else if(bZ p).code=0 then
    if is (bZ p) 0 [91]=true then match iE f (.expr (d+1)) (bZ p).next with
     |none=>none
     |some (a,q)=>some (one 3 (tok p 0).at_ (tok p 0).s [a],want q [93])
    else if is (bZ p) 0 [40]=true then match iA f (d+1) [] (bZ p).next with
     |none=>none
     |some (l,q)=>some (one 4 (tok p 0).at_ (tok p 0).s l,q)
    else some (one 2 (tok p 0).at_ (tok p 0).s [],bZ p)
   else some (one 2 (tok p 0).at_ (tok p 0).s [],bZ p)
  else some (T.zero,cK p d)
def iA:Nat->Nat->List T->RS->Option (List T × RS)
 |0,_,_,_=>none
 |f+1,d,s,p =>
  if p.code=0/\is p 0 [41]=false then match iE f (.expr d) (if s.length=0 then p else want p [44])with
   |none=>none
   |some (a,q)=>iA f d (s++[a]) q
  else some (s,want p [41])
end
section
variable{p q:RS}{ts r:List Tok}
theorem On.tok(h:On p ts)(k:Nat):tok p k=(match ts[k]? with|some t=>t|none=>⟨0,0,[],p.e⟩):=by unfold Im.tok;rw[h.at]
def On.tN(h:On p ts):(Im.tok p 0).at_=Go.Xp.place p.e ts:=by
 rw[On.tok h]
 cases ts with
 |nil=>rfl
 |cons t r=>rfl
theorem On.is(h:On p ts)(k:Nat){s:ai}(o:s≠[]):is p k s=decide (aH ts k=s):=by
 unfold Im.is
 have e:aH ts k=(if(Im.tok p k).aj=3 then(Im.tok p k).s else[]):=by
  unfold Go.Xp.aH;rw[On.tok h]
  cases G:ts[k]? with
  |none=>simp
  |some t=>rfl
 grind
theorem ij(h:p.code≠0)(s:ai):want p s=p:=by grind[want]
theorem z8(h:p.code≠0)(d:Nat):cK p d=p:=by grind[ti,cK]
theorem M3(h:p.code≠0):bZ p=p:=by grind[bZ]
theorem On.lB(h:On p ts):cD p (lB p) (.error (7,place p.e ts)):=by
 unfold Im.lB;rw[On.tN h];exact h.fail 7 _ aE
theorem On.want(h:On p ts){s:ai}(o:s≠[]):cD p (want p s) (Go.Xp.ba p.e s ts):=by
 unfold Im.want Go.Xp.ba;rw[ae h.code,On.is h 0 o]
 by_cases M:aH ts 0=s
 ·rw[ae zfk,ae M];have⟨t,H,_⟩:=ep o M;rw[H]at h
  exact h.next
 simp_all[ab,On.lB]
theorem nh(h:On p ts){s:ai}(o:s≠[]):(∃r,Go.Xp.ba p.e s ts=.ok r/\cD p (Im.want p s) (.ok r))\/(∃x,Go.Xp.ba p.e s ts=.error x/\cD p (Im.want p s) (.error x)):=by
 have h:=On.want h o
 grind[Go.Xp.ba]
def tC(h:On p ts):(∃r,Go.Xp.name p.e ts=.ok ((Im.tok p 0).s,r)/\cD p (Im.bZ p) (.ok r))\/(∃x,Go.Xp.name p.e ts=.error x/\cD p (Im.bZ p) (.error x)):=by
 have H:=On.tok h 0;have i:=On.lB h;unfold Im.bZ;rw[ae h.code]
 cases ts with
 |nil =>
  simp only[List.getElem?_nil]at H;rw[H];exact .inr ⟨_,rfl,by rw[ab zfm];exact i⟩
 |cons t r =>
  simp only[getElem?_cons_zero]at H;rw[H];simp only[Go.Xp.name]
  by_cases v:t.aj=2
  ·rw[ae v,ae v]
   by_cases W:t.s.length>12
   ·rw[ae W,ae W];exact .inr ⟨_,rfl,h.fail 8 _ aE⟩
   ·rw[ab W,ab W];exact .inl ⟨r,rfl,h.next⟩
  ·rw[ab v,ab v];exact .inr ⟨_,rfl,i⟩
def EJ(h:p.code≠0){g d:Nat}(hg:1<=g):iE g (.expr d) p=some (T.zero,p):=by
 obtain⟨g,rfl⟩:∃s,g=s+1:=⟨g-1,by omega⟩;rw[iE,z8 h,ab h]
theorem Ms(h:p.code≠0){g k d:Nat}{out:T}(hg:1<=g):iE g (.loop k d out) p=some (out,p):=by
 obtain⟨g,rfl⟩:∃s,g=s+1:=⟨g-1,by omega⟩
 grind[iE]
end
structure IE(f:Nat):Prop where
 expr:∀d ts p,On p ts->rd p.e f (.expr d) ts≠.error bC->∃t q,(∀g,f+2<=g->iE g (.expr d) p=some (t,q))/\iu p q t (rd p.e f (.expr d) ts)
 level:∀k d ts p,k<=9->On p ts->rd p.e f (.level k d) ts≠.error bC->∃t q,(∀g,f+2<=g->iE g (.level k d) p=some (t,q))/\iu p q t (rd p.e f (.level k d) ts)
 loop:∀k d out ts p,k<9->On p ts->rd p.e f (.loop k d out) ts≠.error bC->∃t q,(∀g,f+2<=g->iE g (.loop k d out) p=some (t,q))/\iu p q t (rd p.e f (.loop k d out) ts)
 operand:∀d ts p,On p ts->rd p.e f (.operand d) ts≠.error bC->∃t q,(∀g,f+2<=g->iE g (.operand d) p=some (t,q))/\iu p q t (rd p.e f (.operand d) ts)
 args:∀d acc ts p,On p ts->rd.args p.e f d acc ts≠.error bC->∃t q,(∀g,f+2<=g->iA g d acc p=some (t,q))/\iu p q t (rd.args p.e f d acc ts)
def nb{f g:Nat}(h:f+1+2<=g):∃s,g=s+1/\f+2<=s:=⟨g-1,by omega,by omega⟩
def ie(f:Nat):IE f:=by
 induction f with
 |zero =>
  refine⟨fun d ts p _ h=>absurd ?_ h,fun k d ts p _ _ h=>absurd ?_ h,fun k d out ts p _ _ h=>absurd ?_ h,fun d ts p _ h=>absurd ?_ h,fun d A ts p _ h=>absurd ?_ h⟩<;>simp[rd,rd.args]
 |succ f C =>
  refine⟨fun d ts p j h=>?_,fun k d ts p hk j h=>?_,fun k d out ts p hk j h=>?_,fun d ts p j h=>?_,fun d A ts p j h=>?_⟩
  ·rw[rd]at h |-
   by_cases hd:d>60
   ·rw[ae hd]at h |-;have N:=j.fail 9 (tok p 0).at_ aE;refine⟨T.zero,p.fail 9 (tok p 0).at_,fun g c=>?_,by rw[<-On.tN j];exact N⟩;obtain⟨g,rfl,c⟩:=nb c
    have l:cK p d=p.fail 9 (tok p 0).at_:=by grind[cK]
    rw[iE,l,ab N.err]
   ·rw[ab hd]at h |-
    have l:cK p d=p:=by grind[cK]
    have⟨t,q,E,i⟩:=C.level 0 (d+1) ts p aK j h;refine⟨t,q,fun g c=>?_,i⟩;obtain⟨g,rfl,c⟩:=nb c;rw[iE,l,ae j.code]
    grind
  ·rw[rd]at h |-
   by_cases h9:k=9
   ·rw[ae h9]at h |-;have⟨t,q,E,i⟩:=C.operand d ts p j h;refine⟨t,q,fun g c=>?_,i⟩;obtain⟨g,rfl,c⟩:=nb c
    grind[iE]
   ·rw[ab h9]at h |-
    cases o:rd p.e f (.level (k+1) d) ts with
    |error x =>
     rw[o]at h
     have hx:x≠bC:=fun G=>h zfS
     have⟨t,q,E,i⟩:=C.level (k+1) d ts p aK j zfk;rw[o]at i;refine⟨t,q,fun g c=>?_,i⟩;obtain⟨g,rfl,c⟩:=nb c;rw[iE,ab h9,E g aK];exact Ms (cD.err i) aK
    |ok r =>
     have⟨t',r⟩:=r;rw[o]at h;simp only at h |-;have⟨t,q,E,i⟩:=C.level (k+1) d ts p aK j zfk;rw[o]at i;obtain⟨rfl,i⟩:=i;rw[<-i.2.2]at h |-;have⟨t3,q3,h3,h4⟩:=C.loop k d t r q aK i.1 h;refine⟨t3,q3,fun g c=>?_,iu.tr i h4⟩;obtain⟨g,rfl,c⟩:=nb c
     grind[iE]
  ·cases ts with
   |nil =>
    rw[rd];refine⟨out,p,fun g c=>?_,rfl,j.self⟩;obtain⟨g,rfl,c⟩:=nb c;rw[iE,ab]
    grind[On.tok]
   |cons t r =>
    rw[rd]at h |-
    have R:tok p 0=t:=by grind[On.tok]
    by_cases hc:t.aj=3/\t.s∈levels.getD k []
    ·rw[ae hc]at h |-
     have z:=j.next
     have B:p.code=0/\(tok p 0).aj=3/\(levels.getD k []).contains (tok p 0).s=true:=by rw[R];exact⟨j.code,hc.1,by grind⟩
     rw[show p.e=p.next.e from rfl]at h |-
     cases o:rd p.next.e f (.level (k+1) d) r with
     |error x =>
      rw[o]at h
      have hx:x≠bC:=fun G=>h zfS
      have⟨b,q,E,i⟩:=C.level (k+1) d r p.next aK z.1 zfk
      rw[o]at i;refine⟨one 6 t.at_ t.s [out,b],q,fun g c=>?_,z.tr (y:=.error x) i⟩;obtain⟨g,rfl,c⟩:=nb c;rw[iE,ae B,E g aK,R];exact Ms (cD.err i) aK
     |ok x =>
      have⟨b',H⟩:=x;rw[o]at h;simp only at h |-
      have⟨b,q,E,i⟩:=C.level (k+1) d r p.next aK z.1 zfk
      rw[o]at i;obtain⟨rfl,i⟩:=i;rw[<-i.2.2]at h |-;have⟨t3,q3,h3,h4⟩:=C.loop k d (one 6 t.at_ t.s [out,b]) H q hk i.1 h;refine⟨t3,q3,fun g c=>?_,iu.tr (z.tr i) h4⟩;obtain⟨g,rfl,c⟩:=nb c
      grind[iE]
    ·rw[ab hc];refine⟨out,p,fun g c=>?_,rfl,j.self⟩;obtain⟨g,rfl,c⟩:=nb c
     grind[iE]
  ·rw[rd.eq_def]at h |-;simp only at h |-
   by_cases hd:d>60
   ·rw[ae hd]at h |-;have N:=j.fail 9 (tok p 0).at_ aE;refine⟨T.zero,p.fail 9 (tok p 0).at_,fun g c=>?_,by rw[<-On.tN j];exact N⟩;obtain⟨g,rfl,c⟩:=nb c
    have l:cK p d=p.fail 9 (tok p 0).at_:=by grind[cK]
    rw[iE,l,ab N.err]
   ·rw[ab hd]at h |-
    have l:cK p d=p:=by grind[cK]
    have hi:∀s:ai,s≠[]->is p 0 s=decide (aH ts 0=s):=fun s hs=>On.is j 0 hs
    cases ts with
    |nil =>
     simp only
     have R:tok p 0=⟨0,0,[],p.e⟩:=by grind[On.tok]
     have Q:∀s:ai,s≠[]->is p 0 s=false:=fun s hs=>by grind[is]
     have Q9:bZ p=p.fail 7 p.e:=by unfold bZ;rw[ae j.code,R,ab zfm];grind[lB]
     have N:=j.fail 7 p.e aE;refine⟨one 2 p.e [] [],p.fail 7 p.e,fun g c=>?_,N⟩;obtain⟨g,rfl,c⟩:=nb c;rw[iE,l,ae j.code,Q _ aE,Q _ aE,Q _ aE,ab aE,ab zfk,Q _ aE,ab aE,Q9,ab N.err,R]
    |cons t r =>
     simp only at h |-
     have R:tok p 0=t:=by grind[On.tok]
     have z:=j.next
     by_cases h3:t.aj=3
     ·rw[ae h3]at h |-
      have Av:aH (t::r) 0=t.s:=by simp only[aH,getElem?_cons_zero,dL,h3,if_true]
      have h31:¬t.aj=1:=by omega
      have hi':∀s:ai,s≠[]->is p 0 s=decide (t.s=s):=fun s hs=>by grind
      by_cases hu:t.s=[45]\/t.s=[33]\/t.s=[126]
      ·rw[ae hu]at h |-
       have v:is p 0 [45]=true\/is p 0 [33]=true\/is p 0 [126]=true:=by
        grind
       rw[show p.e=p.next.e from rfl]at h |-
       cases o:rd p.next.e f (.operand (d+1)) r with
       |error x =>
        rw[o]at h
        have hx:x≠bC:=fun G=>h zfS
        have⟨b,q,E,i⟩:=C.operand (d+1) r p.next z.1 zfk
        rw[o]at i;refine⟨one 5 t.at_ t.s [b],q,fun g c=>?_,z.tr (y:=.error x) i⟩;exact zeV
       |ok x =>
        have⟨b',H⟩:=x;rw[o]at h;simp only at h |-
        have⟨b,q,E,i⟩:=C.operand (d+1) r p.next z.1 zfk
        rw[o]at i;obtain⟨rfl,i⟩:=i;refine⟨one 5 t.at_ t.s [b],q,fun g c=>?_,rfl,z.tr i⟩;exact zeV
      ·rw[ab hu]at h |-
       have v:¬(is p 0 [45]=true\/is p 0 [33]=true\/is p 0 [126]=true):=by
        grind
       by_cases S:t.s=[40]
       ·rw[ae S]at h |-
        have w:is p 0 [40]=true:=by grind
        rw[show p.e=p.next.e from rfl]at h |-
        cases o:rd p.next.e f (.expr (d+1)) r with
        |error x =>
         rw[o]at h
         have hx:x≠bC:=fun G=>h zfS
         have⟨b,q,E,i⟩:=C.expr (d+1) r p.next z.1 zfk
         rw[o]at i;refine⟨b,want q [41],fun g c=>?_,?_⟩
         ·exact zdV
         ·rw[ij (cD.err i)];exact z.tr (y:=.error x) i
        |ok x =>
         have⟨b',H⟩:=x;rw[o]at h;simp only at h |-
         have⟨b,q,E,i⟩:=C.expr (d+1) r p.next z.1 zfk
         rw[o]at i;obtain⟨rfl,i⟩:=i;have m:=(z.tr i).tr (On.want i.1 (s:=[41]) aE);rw[i.2.2]at m;refine⟨b,want q [41],fun g c=>?_,?_⟩
         ·exact zdV
         ·cases O:ba p.next.e [41] H with
          |error x=>rw[O]at m;exact m
          |ok r2=>rw[O]at m;exact⟨rfl,m⟩
       ·rw[ab S]at h |-
        have w:¬is p 0 [40]=true:=by grind
        have Q9:bZ p=p.fail 7 t.at_:=by unfold bZ;rw[ae j.code,R,ab aK];grind[lB]
        have N:=j.fail 7 t.at_ aE;refine⟨one 2 t.at_ t.s [],p.fail 7 t.at_,fun g c=>?_,N⟩;obtain⟨g,rfl,c⟩:=nb c;rw[iE,l,ae j.code,ab v,ab zfk,ab w,Q9,ab N.err,R]
     ·rw[ab h3]at h |-
      have Q:∀s:ai,s≠[]->is p 0 s=false:=fun s hs=>by grind[is]
      have v:¬(is p 0 [45]=true\/is p 0 [33]=true\/is p 0 [126]=true):=by grind
      by_cases E:t.aj=1
      ·rw[ae E];refine⟨_,p.next,fun g c=>?_,rfl,z⟩;obtain⟨g,rfl,c⟩:=nb c;rw[iE,l,ae j.code,ab v,ae zfk,R]
      ·rw[ab E]at h |-
       have J:¬(tok p 0).aj=1:=by grind
       have w:¬is p 0 [40]=true:=by grind
       rcases tC j with⟨H,k1,u⟩|⟨x,k1,u⟩
       ·rw[k1]at h |-;simp only at h |-
        have hi2:∀s:ai,s≠[]->is (bZ p) 0 s=decide (aH H 0=s):=fun s hs=>On.is u.1 0 hs
        by_cases S:aH H 0=[91]
        ·rw[ae S]at h |-
         have M:is (bZ p) 0 [91]=true:=by grind
         have⟨tb,VB,_⟩:=ep aE S;have n:=u.1;rw[VB]at n
         have n:=u.tr n.next
         rw[<-n.2.2]at h |-
         cases o:rd (bZ p).next.e f (.expr (d+1)) H.tail with
         |error x =>
          rw[o]at h
          have hx:x≠bC:=fun G=>h zfS
          have⟨b,q,k3,F⟩:=C.expr (d+1) H.tail (bZ p).next n.1 zfk
          rw[o]at F;refine⟨one 3 t.at_ (tok p 0).s [b],want q [93],fun g c=>?_,?_⟩
          ·obtain⟨g,rfl,c⟩:=nb c;rw[iE,l,ae j.code,ab v,ab J,ab w,ae u.1.code,ae M,k3 g aK]
           grind
          ·rw[ij (cD.err F)];exact n.tr (y:=.error x) F
         |ok x =>
          have⟨b',r2⟩:=x;rw[o]at h;simp only at h |-
          have⟨b,q,k3,F⟩:=C.expr (d+1) H.tail (bZ p).next n.1 zfk
          rw[o]at F;obtain⟨rfl,F⟩:=F;have m:=(n.tr F).tr (On.want F.1 (s:=[93]) aE);rw[F.2.2]at m;refine⟨one 3 t.at_ (tok p 0).s [b],want q [93],fun g c=>?_,?_⟩
          ·obtain⟨g,rfl,c⟩:=nb c;rw[iE,l,ae j.code,ab v,ab J,ab w,ae u.1.code,ae M,k3 g aK]
           grind
          ·cases O:ba (bZ p).next.e [93] r2 with
           |error x=>rw[O]at m;exact m
           |ok r3=>rw[O]at m;exact⟨rfl,m⟩
        ·rw[ab S]at h |-
         have M:¬is (bZ p) 0 [91]=true:=by grind
         by_cases hc:aH H 0=[40]
         ·rw[ae hc]at h |-
          have W:is (bZ p) 0 [40]=true:=by grind
          have⟨tb,VB,_⟩:=ep aE hc;have n:=u.1;rw[VB]at n
          have n:=u.tr n.next
          rw[<-n.2.2]at h |-
          cases o:rd.args (bZ p).next.e f (d+1) [] H.tail with
          |error x =>
           rw[o]at h
           have hx:x≠bC:=fun G=>h zfS
           have⟨b,q,k3,F⟩:=C.args (d+1) [] H.tail (bZ p).next n.1 zfk
           rw[o]at F;refine⟨one 4 t.at_ (tok p 0).s b,q,fun g c=>?_,n.tr (y:=.error x) F⟩;obtain⟨g,rfl,c⟩:=nb c;rw[iE,l,ae j.code,ab v,ab J,ab w,ae u.1.code,ab M,ae W,k3 g aK]
           grind
          |ok x =>
           have⟨b',r2⟩:=x;rw[o]at h
           have⟨b,q,k3,F⟩:=C.args (d+1) [] H.tail (bZ p).next n.1 zfk
           rw[o]at F;obtain⟨rfl,F⟩:=F;refine⟨one 4 t.at_ (tok p 0).s b,q,fun g c=>?_,rfl,n.tr F⟩;obtain⟨g,rfl,c⟩:=nb c;rw[iE,l,ae j.code,ab v,ab J,ab w,ae u.1.code,ab M,ae W,k3 g aK]
           grind
         ·rw[ab hc]at h |-
          have W:¬is (bZ p) 0 [40]=true:=by grind
          refine⟨one 2 t.at_ (tok p 0).s [],bZ p,fun g c=>?_,rfl,u⟩;obtain⟨g,rfl,c⟩:=nb c;rw[iE,l,ae j.code,ab v,ab J,ab w,ae u.1.code,ab M,ab W]
          grind
       ·rw[k1]at h |-;refine⟨one 2 t.at_ (tok p 0).s [],bZ p,fun g c=>?_,u⟩;obtain⟨g,rfl,c⟩:=nb c;rw[iE,l,ae j.code,ab v,ab J,ab w,ab u.err]
        grind
  ·rw[rd.args]at h |-;have hi:is p 0 [41]=decide (aH ts 0=[41]):=On.is j 0 aE
   by_cases S:aH ts 0=[41]
   ·rw[ae S];have hm:=On.want j (s:=[41]) aE;unfold Go.Xp.ba at hm;rw[ae S]at hm;refine⟨A,want p [41],fun g c=>?_,rfl,hm⟩;obtain⟨g,rfl,c⟩:=nb c
    grind[iA,want]
   ·rw[ab S]at h |-;have B:p.code=0/\is p 0 [41]=false:=⟨j.code,by grind⟩;have key:∀(p':RS)(I:List Tok),cD p p' (.ok I)->(if A.length=0 then p else want p [44])=p'->(match rd p.e f (.expr d) I with|.error x=>.error x|.ok (a,ts)=>rd.args p.e f d (A++[a]) ts:Rd (List T))≠.error bC ->
      ∃t q,(∀g,f+1+2<=g->iA g d A p=some (t,q))/\iu p q t (match rd p.e f (.expr d) I with|.error x=>.error x|.ok (a,ts)=>rd.args p.e f d (A++[a]) ts):=by
     intro p' I z Q5 h;rw[<-z.2.2]at h |-
     cases o:rd p'.e f (.expr d) I with
     |error x =>
      rw[o]at h
      have hx:x≠bC:=fun G=>h zfS
      have⟨b,q,k1,u⟩:=C.expr d I p' z.1 zfk;rw[o]at u;refine⟨A++[b],q,fun g c=>?_,z.tr (y:=.error x) u⟩;obtain⟨g,rfl,c⟩:=nb c;rw[iA,ae B,Q5,k1 g aK];simp only;obtain⟨g,rfl⟩:∃g',g=g'+1:=⟨g-1,by omega⟩;rw[iA,ab (fun G=>cD.err u G.1),ij (cD.err u)]
     |ok x =>
      have⟨b',H⟩:=x;rw[o]at h;simp only at h |-;have⟨b,q,k1,u⟩:=C.expr d I p' z.1 zfk;rw[o]at u;obtain⟨rfl,u⟩:=u;rw[<-u.2.2]at h |-;have⟨t3,q3,h3,h4⟩:=C.args d (A++[b]) H q u.1 h;refine⟨t3,q3,fun g c=>?_,iu.tr (z.tr u) h4⟩;obtain⟨g,rfl,c⟩:=nb c
      grind[iA]
    cases A with
    |nil =>
     rw[ae rfl]at h |-;exact key p ts j.self rfl h
    |cons a0 acc0 =>
     rw[ab zfm]at h |-
     rcases nh j (s:=[44]) aE with⟨H,k1,u⟩|⟨x,k1,u⟩
     ·grind
     ·rw[k1];refine⟨a0::acc0++[T.zero],want p [44],fun g c=>?_,u⟩;obtain⟨g,rfl,c⟩:=nb c;rw[iA,ae B,ab zfm,EJ u.err aK];simp only;obtain⟨g,rfl⟩:∃g',g=g'+1:=⟨g-1,by omega⟩;rw[iA,ab (fun G=>u.err G.1),ij u.err]
end Go.Im
namespace Go.Xp
abbrev tU(ts:List Tok):Prop:=ts.Pairwise fun a b=>a.at_<b.at_
section
variable{e:Int}{s:ai}{ts r:List Tok}
theorem wv(o:s≠[])(h:ba e s ts=.ok r):∃u,ts=u::r/\u.aj=3/\u.s=s:=by
 have⟨z,v⟩:=BX h
 simp_all[Go.Sp.ep]
theorem E2(h:name e ts=.ok (s,r)):∃u,ts=u::r/\u.aj=2/\u.s=s/\s.length<=12:=by
 cases ts with
 |nil=>cases h
 |cons t ts =>
  grind[name]
end
def tK{s:ai}{ts:List Tok}(o:s≠[])(h:aH ts 0=s):∃u,ts=u::ts.tail/\u.aj=3/\u.s=s:=Go.Sp.ep o h
def Jt(ts r:List Tok)(t:T):Prop:=∃a z,ts=a::(z++r)/\(tU ts->a.at_<=t.n.at_/\(t.n.aj=3->t.n.at_=a.at_->a.aj=2/\∃W w,a::z=W++[w]/\w.s=[93]))
def zV(ts r:List Tok)(out t:T):Prop:=(t=out/\r=ts)\/(t.n.aj=6/\∃w,ts=w++r/\∃u∈ts,t.n.at_=u.at_)
def Tw(e:Int):∀f,(∀j ts t r,(∀k d out,j≠.loop k d out)->rd e f j ts=.ok (t,r)->Jt ts r t)/\(∀k d out ts t r,rd e f (.loop k d out) ts=.ok (t,r)->zV ts r out t)/\(∀d v ts l r,rd.args e f d v ts=.ok (l,r)->∃c,ts=c++r/\c≠[]):=by
 intro f
 induction f with
 |zero=>exact⟨fun j ts t r _ h=>by simp[rd]at h,fun k d out ts t r h=>by simp[rd]at h,fun d v ts l r h=>by simp[rd.args]at h⟩
 |succ f ih =>
  have⟨B,O,i3⟩:=ih;refine⟨fun j ts t r hj h=>?_,fun k d out ts t r h=>?_,fun d v ts l r h=>?_⟩
  ·rw[rd.eq_def]at h
   cases j with
   |expr d =>
    grind
   |level k d =>
    simp only at h;split at h
    ·grind
    ·split at h
     ·cases h
     ·rename_i out H i;have I:=B _ _ _ _ (fun k d out h=>by cases h) i;have S:=O _ _ _ _ _ _ h
      rcases S with⟨rfl,rfl⟩|⟨J,o,rfl,u,F,C⟩
      ·exact I
      ·obtain⟨a,c,rfl,M⟩:=I;refine⟨a,c++o,by simp,fun A=>⟨?_,fun h6=>by omega⟩⟩
       simp_all[tU,List.pairwise_cons,Int.le_of_lt,List.mem_append_right]
   |loop k d out=>grind
   |operand d =>
    simp only at h;split at h
    ·cases h
    ·cases ts with
     |nil=>cases h
     |cons a Q =>
      simp only at h;split at h
      ·rename_i J;split at h
       ·split at h
        ·cases h
        ·rename_i b G i;cases h;obtain⟨m,c,rfl,_⟩:=B _ _ _ _ (fun k d out h=>by cases h) i;exact⟨a,m::c,by simp,fun _=>⟨by simp[one,T.n],fun h=>by simp[one,T.n]at h⟩⟩
       ·split at h
        ·split at h
         ·cases h
         ·rename_i b G i;split at h
          ·cases h
          ·rename_i R E;cases h;obtain⟨m,c,rfl,M⟩:=B _ _ _ _ (fun k d out h=>by cases h) i;obtain⟨w,rfl,_,_⟩:=wv aE E;refine⟨a,m::(c++[w]),by simp,fun A=>?_⟩
           grind[List.pairwise_cons]
        ·cases h
      ·split at h
       ·cases h;simp[Int.le_refl,T.n,Jt,Tok.at_,Tok.n]
       ·split at h
        ·cases h
        ·rename_i s G hn;have⟨u,F,W,_⟩:=E2 hn;cases F;split at h
         ·rename_i A;have⟨w,N,_,_⟩:=tK aE A;split at h
          ·cases h
          ·rename_i b R i;split at h
           ·cases h
           ·rename_i r4 E;cases h;obtain⟨m,c,C,M⟩:=B _ _ _ _ (fun k d out h=>by cases h) i;obtain⟨z,rfl,_,hz⟩:=wv aE E;refine⟨a,w::m::(c++[z]),by grind,fun _=>⟨Int.le_refl _,fun _ _=>⟨W,a::w::m::c,z,by simp,hz⟩⟩⟩
         ·split at h
          ·rename_i A;have⟨w,N,_,_⟩:=tK aE A;split at h
           ·cases h
           ·rename_i l R i;cases h;have⟨c,C,_⟩:=i3 _ _ _ _ _ i;exact⟨a,w::c,by grind,fun _=>⟨Int.le_refl _,fun h=>by simp[one,T.n]at h⟩⟩
          ·cases h;simp[Int.le_refl,T.n,Jt,one,Tok.at_]
  ·cases ts with
   |nil=>grind[rd,zV]
   |cons a Q =>
    rw[rd]at h;split at h
    ·split at h
     ·cases h
     ·rename_i b G i;obtain⟨m,c,rfl,_⟩:=B _ _ _ _ (fun k d out h=>by cases h) i
      rcases O _ _ _ _ _ _ h with⟨rfl,rfl⟩|⟨J,o,rfl,u,F,C⟩
      ·exact .inr ⟨rfl,a::m::c,by simp,a,by simp,rfl⟩
      grind[zV]
    grind[zV]
  ·rw[rd.args]at h;split at h
   ·rename_i A;have⟨w,N,_,_⟩:=tK aE A;cases h;exact⟨[w],by grind,by simp⟩
   ·split at h
    ·cases h
    ·rename_i H hts;split at h
     ·cases h
     ·rename_i a Q i;obtain⟨m,c,C,_⟩:=B _ _ _ _ (fun k d out h=>by cases h) i
      grind[wv]
def LF{e:Int}{d:Nat}{ts r:List Tok}{t:T}(h:expr e d ts=.ok (t,r)):Jt ts r t:=(Tw e _).1 _ _ _ _ (fun k d out h=>by cases h) h
end Go.Xp
namespace Go.Im
open Go.Xp Go.Sp
def uv(p:RS):ai:=match p.l[p.i-1]? with|some t=>t.s|none=>[]
def wE(p q:RS)(e:T):Prop:=e.n.aj=3/\q.code=0/\uv q=[93]/\e.n.at_=(tok p 0).at_/\(tok p 0).aj=2/\is q 0 [61]=true
instance(p q:RS)(e:T):Decidable (wE p q e):=by unfold wE;infer_instance
mutual
def iS:Nat->sV->RS->Option (T × RS)
 |0,_,_=>none
 |f+1,.block d,p =>
  if(cK p d).code=0 then match iB f (d+1) [] (want p [123])with
   |none=>none
   |some (l,q)=>some (one 14 (tok p 0).at_ [] l,want q [125])
  else some (one 14 (tok p 0).at_ [] [],cK p d)
 |f+1,.stmt d,p =>
  if(cK p d).code=0 then
   if is p 0 lX=true then match iE f (.expr (d+1)) (want (bZ p.next) [61])with
    |none=>none
    |some (e,q)=>some (one 13 (tok p 0).at_ (tok p.next 0).s [e],want q [59])
   else if is p 0 gb=true\/is p 0 gz=true then match iE f (.expr (d+1)) (want p.next [40])with
    |none=>none
    |some (c,q)=>match iS f (.block (d+1)) (want q [41])with
     |none=>none
     |some (b,q) =>
      if is p 0 gb=true/\q.code=0/\is q 0 iz=true then match iS f (.block (d+1)) q.next with
       |none=>none
       |some (W,q)=>some (one 9 (tok p 0).at_ [] [c,b,W],q)
      else some (one (if is p 0 gb=true then 9 else 10) (tok p 0).at_ [] [c,b],q)
   else if is p 0 gK=true then match iE f (.expr (d+1)) p.next with
    |none=>none
    |some (e,q)=>some (one 11 (tok p 0).at_ [] [e],want q [59])
   else if(tok p 0).aj=2/\is p 1 [61]=true then match iE f (.expr (d+1)) (want (bZ p) [61])with
    |none=>none
    |some (e,q)=>some (one 7 (tok p 0).at_ (tok p 0).s [e],want q [59])
   else match iE f (.expr (d+1)) p with
    |none=>none
    |some (e,q) =>
     if wE p q e then match e.au,iE f (.expr (d+1)) (want q [61])with
      |a::_,some (v,q)=>some (one 8 (tok p 0).at_ e.n.s [a,v],want q [59])
      |_,_=>none
     else some (one 12 (tok p 0).at_ [] [e],want q [59])
  else some (T.zero,cK p d)
def iB:Nat->Nat->List T->RS->Option (List T × RS)
 |0,_,_,_=>none
 |f+1,d,s,p=>if p.code=0/\is p 0 [125]=false then match iS f (.stmt d) p with
   |none=>none
   |some (a,q)=>iB f d (s++[a]) q
  else some (s,p)
end
def KI(p:RS)(f:Nat):Nat:=f+20*p.l.length+40
section
variable{p q:RS}{ts r:List Tok}
theorem JV{d g:Nat}(R:On p ts)(hg:20*p.l.length+20<=g):∃t q,(∀g,20*p.l.length+20<=g->iE g (.expr d) p=some (t,q))/\((∃r,expr p.e d ts=.ok (t,r)/\cD p q (.ok r))\/(∃x,expr p.e d ts=.error x/\cD p q (.error x))):=by
 have W:ts.length<=p.l.length:=by rw[<-R.rest,n2];omega
 have s:rd p.e (20*ts.length+12) (.expr d) ts≠.error bC:=yt (j:=.expr d) trivial (a8 _);have⟨t,q,z,v⟩:=(ie _).expr d ts p R s;rw[BG (a8 _)]at v;refine⟨t,q,fun g hg=>z g aK,?_⟩
 cases i:expr p.e d ts with
 |error x=>rw[i]at v;exact .inr ⟨x,rfl,v⟩
 |ok y=>have⟨O,r⟩:=y;rw[i]at v;obtain⟨rfl,v⟩:=v;grind
def JU{d:Nat}{b:ai}(R:On p ts)(s:b≠[]):∃t q,(∀g,20*p.l.length+20<=g->iE g (.expr d) p=some (t,q))/\((∃r G,expr p.e d ts=.ok (t,r)/\Go.Xp.ba p.e b r=.ok G/\cD p (want q b) (.ok G))\/(∃r x,expr p.e d ts=.ok (t,r)/\Go.Xp.ba p.e b r=.error x/\cD p (want q b) (.error x))\/(∃x,expr p.e d ts=.error x/\cD p (want q b) (.error x))):=by
 obtain⟨t,q,z,v⟩:=JV (d:=d) R (a8 _);refine⟨t,q,z,?_⟩
 rcases v with⟨r,v,I⟩|⟨x,v,I⟩
 ·rcases nh I.1 s with⟨G,c,F⟩|⟨x,c,F⟩
  ·rw[I.2.2]at c;exact .inl ⟨r,G,v,c,I.tr F⟩
  ·rw[I.2.2]at c;exact .inr (.inl ⟨r,x,v,c,I.tr F⟩)
 ·exact .inr (.inr ⟨x,v,by rw[ij I.err];exact I⟩)
def Mr{d:Nat}{a b:ai}(R:On p ts)(ha:a≠[])(u:b≠[]):∃t q,(∀g,20*p.l.length+20<=g->iE g (.expr d) (want p a)=some (t,q))/\((∃r,inner p.e d a b ts=.ok (t,r)/\cD p (want q b) (.ok r))\/∃x,inner p.e d a b ts=.error x/\cD p (want q b) (.error x)):=by
 unfold Go.Xp.inner
 rcases nh R ha with⟨r,z,v⟩|⟨x,z,v⟩
 ·rw[z];have⟨t,q,I,c⟩:=JU (d:=d) (b:=b) v.1 u;rw[v.2.2]at c;rw[v.2.1]at I;refine⟨t,q,I,?_⟩;simp only
  rcases c with⟨r,G,s,i,w⟩|⟨r,x,s,i,w⟩|⟨x,s,w⟩
  ·rw[s];simp only;rw[i];exact .inl ⟨G,rfl,v.tr w⟩
  ·rw[s];simp only;rw[i];exact zbx
  ·rw[s];exact zbx
 ·rw[z];exact⟨T.zero,want p a,fun g F=>EJ v.err aK,.inr ⟨x,rfl,by rw[ij v.err];exact v⟩⟩
def Mw{d:Nat}(R:On p ts):∃t q,(∀g,20*p.l.length+20<=g->iE g (.expr d) (want (bZ p) [61])=some (t,q))/\((∃r,l9 p.e d ts=.ok (((tok p 0).s,t),r)/\cD p (want q [59]) (.ok r))\/∃x,l9 p.e d ts=.error x/\cD p (want q [59]) (.error x)):=by
 unfold Go.Xp.l9
 rcases tC R with⟨r,z,v⟩|⟨x,z,v⟩
 ·rw[z];have⟨t,q,I,c⟩:=Mr (d:=d) (a:=[61]) (b:=[59]) v.1 aE aE;rw[v.2.2]at c;rw[v.2.1]at I;refine⟨t,q,I,?_⟩;simp only
  rcases c with⟨r,u,w⟩|⟨x,u,w⟩
  ·rw[u];exact .inl ⟨r,rfl,v.tr w⟩
  ·rw[u];exact zbx
 ·rw[z];refine⟨T.zero,bZ p,fun g F=>by rw[ij v.err];exact EJ v.err aK,.inr ⟨x,rfl,by rw[ij v.err];exact v⟩⟩
def Pf(h:p.code≠0){g d:Nat}(hg:1<=g):iS g (.block d) p=some (one 14 (tok p 0).at_ [] [],p):=by
 obtain⟨g,rfl⟩:∃s,g=s+1:=⟨g-1,by omega⟩;rw[iS,z8 h,ab h]
theorem On.srt(h:On p ts)(o:tU p.l):tU ts:=by rw[<-h.rest];grind
theorem On.last(h:On p ts){z r:List Tok}{w:Tok}(T:cD p q (.ok r))(H:ts=(z++[w])++r):uv q=w.s:=by
 have A:p.l=p.l.take p.i++(z++w::r):=by
  have:=List.take_append_drop p.i p.l;rw[h.rest,H]at this
  grind
 have j:=congrArg List.length T.1.rest;have b:=congrArg List.length A;have W:=T.1.le;have J:=h.le;rw[T.2.1]at j W;simp only[n2,bl,length_cons,iX]at j b;unfold uv;rw[T.2.1,A,mb zfk,mb zfk]
 grind
end
structure IS'(f:Nat):Prop where
 block:∀d ts p,On p ts->tU p.l->rs p.e f (.block d) ts≠.error bC->∃t q,(∀g,KI p f<=g->iS g (.block d) p=some (t,q))/\iu p q t (rs p.e f (.block d) ts)
 stmt:∀d ts p,On p ts->tU p.l->rs p.e f (.stmt d) ts≠.error bC->∃t q,(∀g,KI p f<=g->iS g (.stmt d) p=some (t,q))/\iu p q t (rs p.e f (.stmt d) ts)
 body:∀d acc ts p,On p ts->tU p.l->rs.body p.e f d acc ts≠.error bC->∃t q,(∀g,KI p f<=g->iB g d acc p=some (t,q))/\iu p (want q [125]) t (rs.body p.e f d acc ts)
def pB{p:RS}{f g:Nat}(h:KI p (f+1)<=g):∃s,g=s+1/\KI p f<=s/\20*p.l.length+20<=s:=⟨g-1,by grind[KI],by grind[KI],by grind[KI]⟩
def Dw{p q:RS}(h:q.l=p.l)(f:Nat):KI q f=KI p f:=by grind[KI]
def is_(f:Nat):IS' f:=by
 induction f with
 |zero=>exact⟨fun d ts p _ _ h=>absurd zf3 h,fun d ts p _ _ h=>absurd zf3 h,fun d acc ts p _ _ h=>absurd zfQ h⟩
 |succ f C =>
  refine⟨fun d ts p A hs h=>?_,fun d ts p A hs h=>?_,fun d acc ts p A hs h=>?_⟩
  ·rw[rs]at h |-;have R:=On.tN A
   by_cases hd:d>60
   ·rw[ae hd]at h |-;have hf:=A.fail 9 (tok p 0).at_ aE;refine⟨one 14 (tok p 0).at_ [] [],p.fail 9 (tok p 0).at_,fun g z=>?_,by rw[<-R];exact hf⟩;obtain⟨g,rfl,o,j⟩:=pB z
    have u:cK p d=p.fail 9 (tok p 0).at_:=by grind[cK]
    rw[iS,u,ab hf.err]
   ·rw[ab hd]at h |-
    have u:cK p d=p:=by grind[cK]
    rcases nh A (s:=[123]) aE with⟨r,H,i⟩|⟨x,H,i⟩
    ·rw[H]at h |-;simp only at h |-
     have W:rs.body p.e f (d+1) [] r≠.error bC:=fun J=>h (by rw[J])
     rw[<-i.2.2]at W;obtain⟨l,q,m,E⟩:=C.body (d+1) [] r (want p [123]) i.1 (by rw[i.2.1];exact hs) W;rw[i.2.2]at E;rw[Dw i.2.1]at m;refine⟨one 14 (tok p 0).at_ [] l,want q [125],fun g z=>?_,?_⟩
     ·obtain⟨g,rfl,o,j⟩:=pB z;rw[iS,u,ae A.code,m g aK]
     ·cases he:rs.body p.e f (d+1) [] r with
      |error x=>rw[he]at E;exact i.tr (y:=.error x) E
      |ok y=>have⟨l',r'⟩:=y;rw[he]at E;obtain⟨rfl,E⟩:=E;rw[R];exact⟨rfl,i.tr E⟩
    ·rw[H]at h |-;refine⟨one 14 (tok p 0).at_ [] [],want p [123],fun g z=>?_,i⟩;obtain⟨g,rfl,o,j⟩:=pB z;rw[iS,u,ae A.code];obtain⟨g,rfl⟩:∃g',g=g'+1:=⟨g-1,by omega⟩;rw[iB,ab (fun J=>i.err J.1)];simp only;rw[ij i.err]
  ·rw[rs]at h |-;have R:=On.tN A
   by_cases hd:d>60
   ·rw[ae hd]at h |-;have hf:=A.fail 9 (tok p 0).at_ aE;refine⟨T.zero,p.fail 9 (tok p 0).at_,fun g z=>?_,by rw[<-R];exact hf⟩;obtain⟨g,rfl,o,j⟩:=pB z
    have u:cK p d=p.fail 9 (tok p 0).at_:=by grind[cK]
    rw[iS,u,ab hf.err]
   ·rw[ab hd]at h |-
    have u:cK p d=p:=by grind[cK]
    have hi:∀s:ai,s≠[]->is p 0 s=decide (aH ts 0=s):=fun s hs=>On.is A 0 hs
    have hi1:is p 1 [61]=decide (aH ts 1=[61]):=On.is A 1 aE;simp only at h |-
    by_cases hv:aH ts 0=lX
    ·rw[ae hv]
     have F:is p 0 lX=true:=by grind[is,lX]
     have⟨tv,Ml,_⟩:=ep aE hv;have G:=A;rw[Ml]at G
     have G:=G.next
     rw[show p.e=p.next.e from rfl];have⟨t,q,H,i⟩:=Mw (d:=d+1) G.1
     rcases i with⟨r,i,m⟩|⟨x,i,m⟩
     ·rw[i];refine⟨one 13 (tok p 0).at_ (tok p.next 0).s [t],want q [59],fun g z=>?_,by rw[R];rfl,G.tr m⟩;exact ze1
     ·rw[i];refine⟨one 13 (tok p 0).at_ (tok p.next 0).s [t],want q [59],fun g z=>?_,G.tr (y:=.error x) m⟩;exact ze1
    rw[ab hv]at h |-
    have F:¬is p 0 lX=true:=by grind[is,lX]
    by_cases hc:aH ts 0=gb\/aH ts 0=gz
    ·rw[ae hc]at h |-
     have I:is p 0 gb=true\/is p 0 gz=true:=by grind[is,gb,gz]
     obtain⟨tv,Ml⟩:∃t,ts=t::ts.tail:=by
      rcases hc with hc|hc
      ·have⟨t,H,_⟩:=ep aE hc;grind
      ·have⟨t,H,_⟩:=ep aE hc;grind
     have G:=A;rw[Ml]at G
     have G:=G.next
     have L7:(if is p 0 gb=true then(9:Int)else 10)=if aH ts 0=gb then 9 else 10:=by grind[is]
     have⟨c,q,H,i⟩:=Mr (d:=d+1) (a:=[40]) (b:=[41]) G.1 aE aE
     rcases i with⟨r,i,m⟩|⟨x,i,m⟩
     ·rw[show p.next.e=p.e from rfl]at i;rw[i]at h |-;simp only at h |-;have m:=G.tr m
      have W:rs p.e f (.block (d+1)) r≠.error bC:=fun J=>h (by rw[J])
      rw[<-m.2.2]at W;obtain⟨b,q2,E,N⟩:=C.block (d+1) r (want q [41]) m.1 (by rw[m.2.1];exact hs) W;rw[m.2.2]at N;rw[Dw m.2.1]at E
      cases he:rs p.e f (.block (d+1)) r with
      |error x =>
       rw[he]at N;refine⟨one (if is p 0 gb=true then 9 else 10) (tok p 0).at_ [] [c,b],q2,fun g z=>?_,m.tr (y:=.error x) N⟩;obtain⟨g,rfl,o,j⟩:=pB z;rw[iS,u,ae A.code,ab F,ae I,H g j];simp only;rw[E g o];simp only;rw[ab (fun J=>cD.err N J.2.1)]
      |ok y =>
       have⟨b',r2⟩:=y;rw[he]at N h;obtain⟨rfl,N⟩:=N;simp only at h |-;have N:=m.tr N;have yU:is q2 0 iz=decide (aH r2 0=iz):=On.is N.1 0 aE
       by_cases Q5:aH ts 0=gb
       ·rw[ae Q5]at h L7 |-
        have Vi:is p 0 gb=true:=by grind
        by_cases rN:aH r2 0=iz
        ·rw[ae rN]at h |-;have⟨te,Mk,_⟩:=ep aE rN;have O:=N.1;rw[Mk]at O
         have O:=N.tr O.next
         have W:rs p.e f (.block (d+1)) r2.tail≠.error bC:=fun J=>h (by rw[J])
         rw[<-O.2.2]at W
         obtain⟨b2,q3,h6,h7⟩:=C.block (d+1) r2.tail q2.next O.1 (by rw[O.2.1];exact hs) W
         rw[O.2.2]at h7;rw[Dw O.2.1]at h6;refine⟨one 9 (tok p 0).at_ [] [c,b,b2],q3,fun g z=>?_,?_⟩
         ·obtain⟨g,rfl,o,j⟩:=pB z;rw[iS,u,ae A.code,ab F,ae I,H g j];simp only;rw[E g o];simp only;rw[ae ⟨Vi,N.1.code,by grind⟩,h6 g o]
         ·cases xg:rs p.e f (.block (d+1)) r2.tail with
          |error x=>rw[xg]at h7;exact O.tr (y:=.error x) h7
          |ok y=>have⟨b3,r3⟩:=y;rw[xg]at h7;obtain⟨rfl,h7⟩:=h7;exact⟨by rw[R],O.tr h7⟩
        ·rw[ab rN];exact zbH
       ·rw[ab Q5]at L7 |-
        have Vi:¬is p 0 gb=true:=by grind
        exact zbH
     ·rw[show p.next.e=p.e from rfl]at i;rw[i]at h |-;have m:=G.tr (y:=.error x) m;refine⟨one (if is p 0 gb=true then 9 else 10) (tok p 0).at_ [] [c,one 14 (tok (want q [41]) 0).at_ [] []],want q [41],fun g z=>?_,m⟩;obtain⟨g,rfl,o,j⟩:=pB z;rw[iS,u,ae A.code,ab F,ae I,H g j];simp only;rw[Pf m.err aK];simp only;rw[ab (fun J=>m.err J.2.1)]
    rw[ab hc]at h |-
    have I:¬(is p 0 gb=true\/is p 0 gz=true):=by grind[is,gb,gz]
    by_cases hr:aH ts 0=gK
    ·rw[ae hr]
     have Q:is p 0 gK=true:=by grind[is,gK]
     have⟨tv,Ml,_⟩:=ep aE hr;have G:=A;rw[Ml]at G
     have G:=G.next
     have⟨t,q,H,i⟩:=JU (d:=d+1) (b:=[59]) G.1 aE;rw[show p.next.e=p.e from rfl]at i;refine⟨one 11 (tok p 0).at_ [] [t],want q [59],fun g z=>?_,?_⟩
     ·obtain⟨g,rfl,o,j⟩:=pB z;rw[iS,u,ae A.code,ab F,ab I,ae Q,H g j]
     ·rcases i with⟨r,r',i,m,E⟩|⟨r,x,i,m,E⟩|⟨x,i,E⟩
      ·rw[i];simp only;rw[m];exact⟨by rw[R],G.tr E⟩
      ·rw[i];simp only;rw[m];exact zeW
      ·rw[i];exact zeW
    rw[ab hr]at h |-
    have Q:¬is p 0 gK=true:=by grind[is,gK]
    cases ts with
    |nil =>
     have ht:tok p 0=⟨0,0,[],p.e⟩:=by grind[On.tok]
     have B:¬((tok p 0).aj=2/\is p 1 [61]=true):=fun hx=>by grind
     obtain⟨t,q,H,i⟩:=JV (d:=d+1) A (a8 _)
     rcases i with⟨r,i,m⟩|⟨x,i,m⟩
     ·exact ze7
     ·have S:¬wE p q t:=fun J=>m.err J.2.1
      refine⟨one 12 (tok p 0).at_ [] [t],want q [59],fun g z=>?_,by unfold simple;rw[i,ij m.err];exact m⟩;exact za3
    |cons a r0 =>
     simp only[simple]at h |-
     have ht:tok p 0=a:=by grind[On.tok]
     by_cases ED:a.aj=2/\aH (a::r0) 1=[61]
     ·rw[ae ED];have B:(tok p 0).aj=2/\is p 1 [61]=true:=⟨by grind,by grind⟩;have⟨t,q,H,i⟩:=Mw (d:=d+1) A
      rcases i with⟨r,i,m⟩|⟨x,i,m⟩
      ·rw[i];refine⟨one 7 (tok p 0).at_ (tok p 0).s [t],want q [59],fun g z=>?_,by grind,m⟩;exact zd2
      ·rw[i];refine⟨one 7 (tok p 0).at_ (tok p 0).s [t],want q [59],fun g z=>?_,m⟩;exact zd2
     ·rw[ab ED]
      have B:¬((tok p 0).aj=2/\is p 1 [61]=true):=fun hx=>ED ⟨by grind,by grind⟩
      obtain⟨t,q,H,i⟩:=JV (d:=d+1) A (a8 _)
      rcases i with⟨r,i,m⟩|⟨x,i,m⟩
      ·rw[i];simp only;have yU:is q 0 [61]=decide (aH r 0=[61]):=On.is m.1 0 aE
       by_cases M:t.n.aj=3/\t.n.at_=a.at_/\aH r 0=[61]
       ·rw[ae M];have⟨a',pre,Vz,VA⟩:=LF i;cases Vz;have⟨hk2,abl,w,vd,xn⟩:=(VA (On.srt A hs)).2 M.1 M.2.1
        have XK:uv q=[93]:=by grind[On.last]
        have S:wE p q t:=⟨M.1,m.1.code,XK,by grind,by grind,by grind⟩;obtain⟨ix,Md⟩:=Nn _ _ _ _ _ _ (fun k d out hj=>by cases hj) i M.1
        have CN:Go.Xp.ba p.e [61] r=.ok r.tail:=by grind[ba]
        have Zb:=On.want m.1 (s:=[61]) aE;rw[m.2.2,CN]at Zb;have G:=m.tr Zb;have⟨v,q2,E,N⟩:=JU (d:=d+1) (b:=[59]) G.1 aE;rw[G.2.2]at N;rw[G.2.1]at E;refine⟨one 8 (tok p 0).at_ t.n.s [ix,v],want q2 [59],fun g z=>?_,?_⟩
        ·exact za3
        ·unfold Go.Xp.inner;rw[CN];simp only
         rcases N with⟨r2,r',i,m,E⟩|⟨r2,x,i,m,E⟩|⟨x,i,E⟩
         ·rw[i];simp only;rw[m];exact⟨by grind,G.tr E⟩
         ·rw[i];simp only;rw[m];exact zeW
         ·rw[i];exact zeW
       ·rw[ab M]
        have S:¬wE p q t:=fun J=>M ⟨J.1,by rw[<-ht];exact J.2.2.2.1,by have:=J.2.2.2.2.2;grind⟩
        refine⟨one 12 (tok p 0).at_ [] [t],want q [59],fun g z=>?_,?_⟩
        ·exact za3
        ·rcases nh m.1 (s:=[59]) aE with⟨r',E,N⟩|⟨x,E,N⟩
         ·rw[m.2.2]at E;rw[E];exact⟨by rw[ht],m.tr N⟩
         ·rw[m.2.2]at E;rw[E];exact m.tr (y:=.error x) N
      ·rw[i]
       have S:¬wE p q t:=fun J=>m.err J.2.1
       refine⟨one 12 (tok p 0).at_ [] [t],want q [59],fun g z=>?_,by rw[ij m.err];exact m⟩;exact za3
  ·rw[rs.body]at h |-;have hi:is p 0 [125]=decide (aH ts 0=[125]):=On.is A 0 aE
   by_cases W:aH ts 0=[125]
   ·rw[ae W];have hm:=On.want A (s:=[125]) aE;unfold Go.Xp.ba at hm;rw[ae W]at hm;refine⟨acc,p,fun g z=>?_,rfl,hm⟩;obtain⟨g,rfl,o,j⟩:=pB z
    grind[iB]
   ·rw[ab W]at h |-
    have Rc:rs p.e f (.stmt d) ts≠.error bC:=fun J=>h (by rw[J])
    have⟨a,q,H,i⟩:=C.stmt d ts p A hs Rc;have hc:p.code=0/\is p 0 [125]=false:=⟨A.code,by grind⟩
    cases he:rs p.e f (.stmt d) ts with
    |error x =>
     rw[he]at i h;refine⟨acc++[a],q,fun g z=>?_,by rw[ij (cD.err i)];exact i⟩;obtain⟨g,rfl,o,j⟩:=pB z;rw[iB,ae hc,H g o];simp only;obtain⟨g,rfl⟩:∃g',g=g'+1:=⟨g-1,by omega⟩;rw[iB,ab (fun J=>cD.err i J.1)]
    |ok y =>
     have⟨a',r⟩:=y;rw[he]at i h;obtain⟨rfl,i⟩:=i;simp only at h |-;rw[<-i.2.2]at h |-;obtain⟨l,q3,m,E⟩:=C.body d (acc++[a]) r q i.1 (by rw[i.2.1];exact hs) h;rw[Dw i.2.1]at m;refine⟨l,q3,fun g z=>?_,iu.tr i E⟩;obtain⟨g,rfl,o,j⟩:=pB z
     grind[iB]
section
variable{p q:RS}
theorem rV{k:Nat}(h:(tok p k).aj≠0):p.i+k<p.l.length:=by
 grind[tok,Nat.lt_of_not_le,List.getElem?_eq_none_iff]
theorem is_lt{k:Nat}{s:ai}(h:is p k s=true):p.i+k<p.l.length:=by
 simp_all[is,a6,rV]
theorem kM{s:ai}(h:is p 0 s=true):p.to p.next:=cS (is_lt h)
theorem wI(R:p.ok):p.to (lB p):=mY R _ _
theorem de(R:p.ok)(s:ai):p.to (want p s):=by
 grind[kM,wI,jV,RS.to,want]
theorem jr(R:p.ok):p.to (bZ p):=by
 unfold bZ;split
 ·split
  ·rename_i h;split
   ·grind[mY]
   ·exact cS (rV (k:=0) aK)
  ·exact wI R
 ·exact jV R
theorem uz(R:p.ok)(d:Nat):p.to (cK p d):=by
 grind[mY,jV,RS.to,cK]
theorem pr{d:Nat}(h:(cK p d).code=0):cK p d=p:=by
 unfold cK at h |-
 grind[RS.fail]
end
def ko:∀(f:Nat),(∀j p t q,p.ok->iE f j p=some (t,q)->p.to q)/\(∀d r p l q,p.ok->iA f d r p=some (l,q)->p.to q)
 |0=>⟨fun j p t q _ h=>by simp[iE]at h,fun d r p l q _ h=>by simp[iA]at h⟩
 |f+1=>by
  have⟨z,v⟩:=ko f;refine⟨fun j p t q R h=>?_,fun d r p l q R h=>?_⟩
  ·cases j with
   |expr d =>
    rw[iE]at h;have s:=uz R d;split at h
    ·exact s.trans (z _ _ _ _ (s.ok R) h)
    grind
   |level k d =>
    rw[iE]at h;split at h
    ·grind
    ·split at h
     ·cases h
     ·rename_i out n e;have:=z _ _ _ _ R e;exact zcH
   |loop k d out =>
    rw[iE]at h;split at h
    ·rename_i o;have Q:=cS (p:=p) (rV (k:=0) aK);split at h
     ·cases h
     ·rename_i b n e;have:=Q.trans (z _ _ _ _ (Q.ok R) e);exact zcH
    grind[jV]
   |operand d =>
    rw[iE]at h;split at h
    ·split at h
     ·rename_i o
      have Q:p.to p.next:=by grind[kM]
      split at h
      ·cases h
      ·rename_i a n e
       cases h;exact Q.trans (z _ _ _ _ (Q.ok R) e)
     ·split at h
      ·rename_i G
       cases h;exact cS (rV (k:=0) aK)
      ·split at h
       ·rename_i o;have Q:=kM o;split at h
        ·cases h
        ·rename_i a n e;have:=Q.trans (z _ _ _ _ (Q.ok R) e)
         cases h;exact zbK
       ·have Q:=jr R;split at h
        ·split at h
         ·rename_i o;have m:=Q.trans (kM o);split at h
          ·cases h
          ·rename_i a n e;have:=m.trans (z _ _ _ _ (m.ok R) e)
           cases h;exact zbK
         ·split at h
          ·rename_i o;have m:=Q.trans (kM o);split at h
           ·cases h
           ·rename_i a n e
            cases h;exact m.trans (v _ _ _ _ _ (m.ok R) e)
          grind
        grind
    grind[uz]
  ·rw[iA]at h;split at h
   ·have Q:p.to (if r.length=0 then p else want p [44]):=by
     grind[jV,de]
    split at h
    ·cases h
    ·rename_i a n e;have:=Q.trans (z _ _ _ _ (Q.ok R) e);exact this.trans (v _ _ _ _ _ (this.ok R) h)
   grind[de]
def DB:∀(f:Nat),(∀j p t q,p.ok->iS f j p=some (t,q)->p.to q)/\(∀d u p l q,p.ok->iB f d u p=some (l,q)->p.to q)
 |0=>⟨fun j p t q _ h=>by simp[iS]at h,fun d u p l q _ h=>by simp[iB]at h⟩
 |f+1=>by
  have⟨z,A⟩:=DB f;have o:=(ko f).1;refine⟨fun j p t q R h=>?_,fun d u p l q R h=>?_⟩
  ·cases j with
   |block d =>
    rw[iS]at h;split at h
    ·have N:=de R [123];split at h
     ·cases h
     ·rename_i l k i;have:=N.trans (A _ _ _ _ _ (N.ok R) i)
      cases h;exact zbK
    grind[uz]
   |stmt d =>
    rw[iS]at h;split at h
    ·split at h
     ·rename_i w;have Q:=kM w;have I:=Q.trans (jr (Q.ok R));have s:=I.trans (de (I.ok R) [61]);split at h
      ·cases h
      ·rename_i e k i;have:=s.trans (o _ _ _ _ (s.ok R) i)
       cases h;exact zbK
     ·split at h
      ·rename_i w
       have Q:p.to p.next:=by grind[kM]
       have s:=Q.trans (de (Q.ok R) [40]);split at h
       ·cases h
       ·rename_i e k i;have:=s.trans (o _ _ _ _ (s.ok R) i);have G:=this.trans (de (this.ok R) [41]);split at h
        ·cases h
        ·rename_i b E B;have S:=G.trans (z _ _ _ _ (G.ok R) B);split at h
         ·rename_i C;have m:=S.trans (kM C.2.2);split at h
          ·cases h
          ·rename_i T F n
           cases h;exact m.trans (z _ _ _ _ (m.ok R) n)
         grind
      ·split at h
       ·rename_i w;have Q:=kM w;split at h
        ·cases h
        ·rename_i e k i;have:=Q.trans (o _ _ _ _ (Q.ok R) i)
         cases h;exact zbK
       ·split at h
        ·have I:=jr R;have s:=I.trans (de (I.ok R) [61]);split at h
         ·cases h
         ·rename_i e k i;have:=s.trans (o _ _ _ _ (s.ok R) i)
          cases h;exact zbK
        ·split at h
         ·cases h
         ·rename_i e k i;have hx:=o _ _ _ _ R i;split at h
          ·have Q:=hx.trans (de (hx.ok R) [61]);split at h
           ·rename_i a r v E H M;have:=Q.trans (o _ _ _ _ (Q.ok R) M)
            cases h;exact zbK
           ·cases h
          ·cases h;exact hx.trans (de (hx.ok R) _)
    grind[uz]
  ·rw[iB]at h;split at h
   ·split at h
    ·cases h
    ·rename_i a k i;have:=z _ _ _ _ R i;exact this.trans (A _ _ _ _ _ (this.ok R) h)
   grind[jV]
theorem vk(p:RS):p.next.i=p.i+1:=rfl
def VH:∀(f:Nat)j p t q,p.ok->iE f j p=some (t,q)->q.code=0->(∀k d out,j≠.loop k d out)->p.i<q.i:=by
 intro f
 induction f with
 |zero=>grind[iE]
 |succ f r =>
  intro j p t q R h T s
  cases j with
  |loop k d out=>grind
  |expr d =>
   grind[iE,pr]
  |level k d =>
   rw[iE]at h;split at h
   ·grind
   ·split at h
    ·cases h
    ·rename_i out m e;have u:=(ko f).1 _ _ _ _ R e
     have n:m.code=0:=by
      by_cases o:m.code=0
      ·exact o
      ·cases f with
       |zero=>simp[iE]at h
       |succ f =>
        simp_all[iE,ab]
     have z:=r _ _ _ _ R e n (fun k d out h=>by cases h);have v:=(ko f).1 _ _ _ _ (u.ok R) h;have:=v.2.2.2;omega
  |operand d =>
   rw[iE]at h;split at h
   ·split at h
    ·rename_i o
     have Q:p.to p.next:=by grind[kM]
     split at h
     ·cases h
     ·rename_i a m e;cases h;have:=((ko f).1 _ _ _ _ (Q.ok R) e).2.2.2
      grind[vk]
    ·split at h
     ·grind[vk]
     ·split at h
      ·rename_i o;have Q:=kM o;split at h
       ·cases h
       ·rename_i a m e;cases h;have z:=(ko f).1 _ _ _ _ (Q.ok R) e;have v:=(de ((z.ok (Q.ok R))) [41]).2.2.2;have:=z.2.2.2
        grind[vk]
      ·have Q:=jr R;split at h
       ·rename_i C
        have n:p.i<(bZ p).i:=by
         unfold bZ at C |-;split at C
         ·rename_i M;split at C
          ·rename_i v;split at C
           ·unfold RS.fail at C;grind
           simp_all[ae,ab,vk]
          ·unfold lB RS.fail at C;grind
         omega
        split at h
        ·rename_i o;have l:=Q.trans (kM o);split at h
         ·cases h
         ·rename_i a m e;cases h;have z:=(ko f).1 _ _ _ _ (l.ok R) e;have v:=(de ((z.ok (l.ok R))) [93]).2.2.2;have:=z.2.2.2
          grind[vk]
        ·split at h
         ·rename_i o;have l:=Q.trans (kM o);split at h
          ·cases h
          ·rename_i a m e;cases h;have:=((ko f).2 _ _ _ _ _ (l.ok R) e).2.2.2
           grind[vk]
         grind
       grind
   grind
end Go.Im
namespace Go.Xp
mutual
def bg:T->Nat
 |.mk _ l=>aZ l+1
def aZ:List T->Nat
 |[]=>0
 |t::r=>bg t+aZ r
end
def bS:Nat->List T->List Int
 |_,[]=>[]
 |n,t::r=>(n:Int)::bS (n+bg t) r
mutual
def jA:Nat->T->List Nd
 |n,.mk W l=>⟨W.aj,W.at_,W.n,W.s,bS (n+1) l⟩::en (n+1) l
def en:Nat->List T->List Nd
 |_,[]=>[]
 |n,t::r=>jA n t++en (n+bg t) r
end
theorem fP(t:T):bg t=aZ t.au+1:=by cases t;rfl
theorem LL(n:Nat)(t:T):jA n t=⟨t.n.aj,t.n.at_,t.n.n,t.n.s,bS (n+1) t.au⟩::en (n+1) t.au:=by cases t;rfl
section
variable(a b:List T)
theorem oY:aZ (a++b)=aZ a+aZ b:=by
 induction a with
 |nil=>simp[aZ]
 |cons t a q=>grind[aZ]
theorem wc(n:Nat):bS n (a++b)=bS n a++bS (n+aZ a) b:=by
 induction a generalizing n with
 |nil=>rfl
 |cons t a q=>grind[bS,aZ]
theorem ya(n:Nat):en n (a++b)=en n a++en (n+aZ a) b:=by
 induction a generalizing n with
 |nil=>rfl
 |cons t a q=>grind[en,aZ]
end
theorem ec(a:List T)(n:Nat):(bS n a).length=a.length:=by
 induction a generalizing n with
 |nil=>rfl
 |cons t a q=>simp[bS,q]
def LM:∀(N:Nat),(∀t:T,bg t<=N->∀n,(jA n t).length=bg t)/\(∀l:List T,aZ l<=N->∀n,(en n l).length=aZ l):=by
 intro N
 induction N with
 |zero =>
  refine⟨fun t h=>by grind[fP],fun l h n=>?_⟩
  cases l with
  |nil=>rfl
  |cons t l=>rw[aZ,fP]at h;omega
 |succ N q =>
  have z:∀t:T,bg t<=N+1->∀n,(jA n t).length=bg t:=fun t h n=>by
   grind[fP,LL,length_cons]
  refine⟨z,fun l=>?_⟩
  induction l with
  |nil=>intro _ n;rfl
  |cons t l W =>
   grind[aZ,en]
theorem SI(t:T)(n:Nat):(jA n t).length=bg t:=(LM (bg t)).1 t (a8 _) n
def sK(l:List T)(n:Nat):(en n l).length=aZ l:=(LM (aZ l)).2 l (a8 _) n
def rB(l:List T)(k:Nat):aZ (l.take k)<=aZ l:=by
 grind[oY,List.take_append_drop]
def uN{l:List T}{k:Nat}{t:T}(h:l[k]?=some t):aZ (l.take (k+1))=aZ (l.take k)+bg t:=by
 grind[dI,oY,aZ,bg]
theorem fH(l:List T):l.length<=aZ l:=by
 induction l with
 |nil=>simp
 |cons t l q=>rw[aZ,fP,length_cons];omega
open Go.Sp (cb fX)
abbrev K:=Int × Int × ai
def kf(t:Tok):K:=(t.aj,t.n,t.s)
abbrev kS(s:ai):K:=(3,0,s)
abbrev kN(s:ai):K:=(2,0,s)
abbrev kI(n:Int):K:=(1,n,[])
inductive E where
 |num (n:Int)
 |name (s:ai)
 |at_ (s:ai) (a:E)
 |call (s:ai) (l:List E)
 |un (s:ai) (a:E)
 |bin (s:ai) (a b:E)
def fg(s:ai):Nat:=(levels.findIdx? fun l=>l.contains s).getD 9
def E.lv:E->Nat
 |.bin s _ _=>fg s
 |_=>9
def brk(lv k:Nat)(x:List K):List K:=if lv<k then kS [40]::(x++[kS [41]])else x
mutual
def E.tk:E->List K
 |.num n=>[kI n]
 |.name s=>[kN s]
 |.at_ s a=>kN s::kS [91]::(a.tk++[kS [93]])
 |.call s l=>kN s::kS [40]::(E.nJ l++[kS [41]])
 |.un s a=>kS s::brk a.lv 9 a.tk
 |.bin s a b=>brk a.lv (fg s) a.tk++kS s::brk b.lv (fg s+1) b.tk
def E.nJ:List E->List K
 |[]=>[]
 |a::l=>a.tk++E.qE l
def E.qE:List E->List K
 |[]=>[]
 |a::l=>kS [44]::(a.tk++E.qE l)
end
mutual
def E.tree:E->T
 |.num n=>.mk ⟨1,0,n,[],[]⟩ []
 |.name s=>.mk ⟨2,0,0,s,[]⟩ []
 |.at_ s a=>.mk ⟨3,0,0,s,[]⟩ [a.tree]
 |.call s l=>.mk ⟨4,0,0,s,[]⟩ (E.aJ l)
 |.un s a=>.mk ⟨5,0,0,s,[]⟩ [a.tree]
 |.bin s a b=>.mk ⟨6,0,0,s,[]⟩ [a.tree,b.tree]
def E.aJ:List E->List T
 |[]=>[]
 |a::l=>a.tree::E.aJ l
end
def Hc(lv k d:Nat)(f:Nat->Bool):Bool:=if lv<k then decide (d<=60)&&decide (d+1<=60)&&f (d+2)else f d
mutual
def E.fit:E->Nat->Bool
 |.num _,d=>decide (d<=60)
 |.name _,d=>decide (d<=60)
 |.at_ _ a,d=>decide (d<=60)&&decide (d+1<=60)&&a.fit (d+2)
 |.call _ l,d=>decide (d<=60)&&E.fits l (d+1)
 |.un _ a,d=>decide (d<=60)&&(if a.lv<9 then decide (d+1<=60)&&decide (d+2<=60)&&a.fit (d+3)else a.fit (d+1))
 |.bin s a b,d=>(if a.lv<fg s then decide (d<=60)&&decide (d+1<=60)&&a.fit (d+2)else a.fit d)&&(if b.lv<fg s+1 then decide (d<=60)&&decide (d+1<=60)&&b.fit (d+2)else b.fit d)
def E.fits:List E->Nat->Bool
 |[],_=>true
 |a::l,d=>decide (d<=60)&&a.fit (d+1)&&E.fits l d
end
mutual
def E.ok:E->Bool
 |.num n=>decide (0<=n)&&decide (n<=2147483647)
 |.name s=>cb s
 |.at_ s a=>cb s&&a.ok
 |.call s l=>cb s&&E.dv l
 |.un s a=>(s==[45] ||s==[33] ||s==[126])&&a.ok
 |.bin s a b=>fX s&&a.ok&&b.ok
def E.dv:List E->Bool
 |[]=>true
 |a::l=>a.ok&&E.dv l
end
mutual
def er:T->T
 |.mk n l=>.mk ⟨n.aj,0,n.n,n.s,[]⟩ (bp l)
def bp:List T->List T
 |[]=>[]
 |t::l=>er t::bp l
end
theorem Hv(l k:List T):bp (l++k)=bp l++bp k:=by
 induction l with
 |nil=>rfl
 |cons t l q=>simp[bp,q]
theorem sI(l:List T):bp l=l.map er:=by
 induction l with
 |nil=>rfl
 |cons t l q=>simp[bp,q]
theorem eY(k a:Int)(s:ai)(l:List T):er (one k a s l)=.mk ⟨k,0,0,s,[]⟩ (bp l):=by rfl
def Ev(e:Int)(j:tS)(ts:List Tok)(x:Rd T):Prop:=∃l,∀f,l<=f->rd e f j ts=x
def Ea(e:Int)(d:Nat)(q:List T)(ts:List Tok)(x:Rd (List T)):Prop:=∃l,∀f,l<=f->rd.args e f d q ts=x
section
variable{e:Int}{d k:Nat}{ts r:List Tok}{t out:T}{x:Rd T}{y:Er}
theorem yN{j C:tS}{ts R:List Tok}{x l:Rd T}(h:Ev e j ts x)(o:∀f,rd e f j ts=x->rd e (f+1) C R=l):Ev e C R l:=by
 have⟨m,M⟩:=h;refine⟨m+1,fun f s=>?_⟩;obtain⟨f,rfl⟩:∃g,f=g+1:=⟨f-1,by omega⟩
 grind
theorem YD{j C l:tS}{ts R Q:List Tok}{x m N:Rd T}(h:Ev e j ts x)(v:Ev e l Q N)(o:∀f,rd e f j ts=x->rd e f l Q=N->rd e (f+1) C R=m):Ev e C R m:=by
 have⟨n,M⟩:=h;have⟨dV,z⟩:=v;refine⟨n+dV+1,fun f s=>?_⟩;obtain⟨f,rfl⟩:∃g,f=g+1:=⟨f-1,by omega⟩
 grind
def LB{C:tS}{R:List Tok}{l:Rd T}(o:∀f,rd e (f+1) C R=l):Ev e C R l :=
 ⟨1,fun f s=>by obtain⟨f,rfl⟩:∃g,f=g+1:=⟨f-1,by omega⟩;exact o f⟩
theorem Ev.expr(hd:d<=60)(h:Ev e (.level 0 (d+1)) ts x):Ev e (.expr d) ts x:=yN h fun f h=>by grind[rd]
theorem Ev.XC(hd:60<d):Ev e (.expr d) ts (.error (9,place e ts)):=LB fun f=>by grind[rd]
theorem Ev.level(G:k≠9)(h:Ev e (.level (k+1) d) ts (.ok (out,r)))(v:Ev e (.loop k d out) r x):Ev e (.level k d) ts x:=YD h v fun f h v=>by grind[rd]
theorem Ev.VS(G:k≠9)(h:Ev e (.level (k+1) d) ts (.error y)):Ev e (.level k d) ts (.error y):=yN h fun f h=>by grind[rd]
theorem Ev.EU(h:Ev e (.operand d) ts x):Ev e (.level 9 d) ts x:=yN h fun f h=>by grind[rd]
theorem Ev.stop(h:aH ts 0 ∉ levels.getD k []):Ev e (.loop k d out) ts (.ok (out,ts)):=LB fun f=>by
 cases ts with
 |nil=>rw[rd]
 |cons t r =>
  rw[rd,ab];rintro⟨I,c⟩
  simp_all[aH,getElem?_cons_zero,dL,if_true]
theorem Ev.go{t:Tok}{b:T}{G:List Tok}(I:t.aj=3)(o:t.s∈levels.getD k [])(h:Ev e (.level (k+1) d) r (.ok (b,G)))(v:Ev e (.loop k d (one 6 t.at_ t.s [out,b])) G x):Ev e (.loop k d out) (t::r) x :=
 YD h v fun f h v=>by grind[rd]
theorem Ev.goX{t:Tok}(I:t.aj=3)(o:t.s∈levels.getD k [])(h:Ev e (.level (k+1) d) r (.error y)):Ev e (.loop k d out) (t::r) (.error y) :=
 yN h fun f h=>by grind[rd]
theorem Ev.QN(hd:60<d):Ev e (.operand d) ts (.error (9,place e ts)):=LB fun f=>by simp_all[rd.eq_def,ae]
theorem Ev.num{t:Tok}(hd:d<=60)(h:t.aj=1):Ev e (.operand d) (t::r) (.ok (.mk ⟨1,t.at_,t.n,[],[]⟩ [],r)):=LB fun f=>by
 simp_all[rd.eq_def,ab,ae]
theorem Ev.un{t:Tok}{a:T}{G:List Tok}(hd:d<=60)(I:t.aj=3)(o:t.s=[45]\/t.s=[33]\/t.s=[126])(h:Ev e (.operand (d+1)) r (.ok (a,G))):Ev e (.operand d) (t::r) (.ok (one 5 t.at_ t.s [a],G)) :=
 yN h fun f h=>by grind[rd.eq_def]
theorem Ev.unX{t:Tok}(hd:d<=60)(I:t.aj=3)(o:t.s=[45]\/t.s=[33]\/t.s=[126])(h:Ev e (.operand (d+1)) r (.error y)):Ev e (.operand d) (t::r) (.error y) :=
 yN h fun f h=>by grind[rd]
theorem Ev.par{t u:Tok}{a:T}{G:List Tok}(hd:d<=60)(I:t.aj=3)(o:t.s=[40])(b:u.aj=3)(W:u.s=[41])(h:Ev e (.expr (d+1)) r (.ok (a,u::G))):Ev e (.operand d) (t::r) (.ok (a,G)) :=
 yN h fun f h=>by
  rw[rd.eq_def];simp only;rw[ab aK,ae I,ab zfk,ae o,h];simp only[ba,aH,getElem?_cons_zero,dL,b,if_true,W,tail_cons]
theorem Ev.aaA{t:Tok}(hd:d<=60)(I:t.aj=3)(o:t.s=[40])(h:Ev e (.expr (d+1)) r (.error y)):Ev e (.operand d) (t::r) (.error y) :=
 yN h fun f h=>by grind[rd]
theorem sL{t:Tok}(v:t.aj=2)(W:t.s.length<=12):name e (t::r)=.ok (t.s,r):=by
 simp only[name,v,if_true];grind
theorem Ev.name{t:Tok}(hd:d<=60)(v:t.aj=2)(W:t.s.length<=12)(w:aH r 0≠[91])(u:aH r 0≠[40]):Ev e (.operand d) (t::r) (.ok (one 2 t.at_ t.s [],r)):=LB fun f=>by
 simp_all[rd.eq_def,ab,sL]
def Ev.ix{t u w:Tok}{a:T}{G:List Tok}(hd:d<=60)(v:t.aj=2)(b:t.s.length<=12)(c:u.aj=3)(W:u.s=[91])(i:w.aj=3)(z:w.s=[93])(h:Ev e (.expr (d+1)) r (.ok (a,w::G))):Ev e (.operand d) (t::u::r) (.ok (one 3 t.at_ t.s [a],G)) :=
 yN h fun f h=>by
  rw[rd.eq_def];simp only;rw[ab aK,ab aK,ab aK,sL v b];simp only;rw[ae (by simp only[aH,getElem?_cons_zero,dL,c,if_true,W]),tail_cons,h];simp only[ba,aH,getElem?_cons_zero,dL,i,if_true,z,tail_cons]
theorem Ev.Zf{t u:Tok}(hd:d<=60)(v:t.aj=2)(b:t.s.length<=12)(c:u.aj=3)(W:u.s=[91])(h:Ev e (.expr (d+1)) r (.error y)):Ev e (.operand d) (t::u::r) (.error y) :=
 yN h fun f h=>by
  rw[rd.eq_def];simp only;rw[ab aK,ab aK,ab aK,sL v b];simp only;rw[ae (by simp only[aH,getElem?_cons_zero,dL,c,if_true,W]),tail_cons,h]
theorem Ev.call{t u:Tok}{l:List T}{G:List Tok}(hd:d<=60)(v:t.aj=2)(c:t.s.length<=12)(b:u.aj=3)(W:u.s=[40])(h:Ea e (d+1) [] r (.ok (l,G))):Ev e (.operand d) (t::u::r) (.ok (one 4 t.at_ t.s l,G)):=by
 have⟨m,M⟩:=h;refine⟨m+1,fun f w=>?_⟩;obtain⟨f,rfl⟩:∃g,f=g+1:=⟨f-1,by omega⟩
 have o:aH (u::r) 0=[40]:=by simp only[aH,getElem?_cons_zero,dL,b,if_true,W]
 simp_all[rd.eq_def,ab,sL,ae,tail_cons]
theorem Ev.Xk{t u:Tok}(hd:d<=60)(v:t.aj=2)(c:t.s.length<=12)(b:u.aj=3)(W:u.s=[40])(h:Ea e (d+1) [] r (.error y)):Ev e (.operand d) (t::u::r) (.error y):=by
 have⟨l,M⟩:=h;refine⟨l+1,fun f w=>?_⟩;obtain⟨f,rfl⟩:∃g,f=g+1:=⟨f-1,by omega⟩
 have o:aH (u::r) 0=[40]:=by simp only[aH,getElem?_cons_zero,dL,b,if_true,W]
 simp_all[rd.eq_def,ab,sL,ae,tail_cons]
theorem Ea.nil{u:Tok}{q:List T}(b:u.aj=3)(W:u.s=[41]):Ea e d q (u::r) (.ok (q,r)):=⟨1,fun f v=>by
 obtain⟨f,rfl⟩:∃g,f=g+1:=⟨f-1,by omega⟩
 have o:aH (u::r) 0=[41]:=by simp only[aH,getElem?_cons_zero,dL,b,if_true,W]
 grind[rd.args]⟩
theorem Ea.first{a:T}{G:List Tok}{x:Rd (List T)}(o:aH r 0≠[41])(h:Ev e (.expr d) r (.ok (a,G)))(v:Ea e d [a] G x):Ea e d [] r x:=by
 have⟨l,M⟩:=h;have⟨dV,z⟩:=v;refine⟨l+dV+1,fun f s=>?_⟩;obtain⟨f,rfl⟩:∃g,f=g+1:=⟨f-1,by omega⟩
 grind[rd.args]
theorem Ea.UT{a:T}(o:aH r 0≠[41])(h:Ev e (.expr d) r (.error y)):Ea e d [] r (.error y):=by
 have⟨l,M⟩:=h;refine⟨l+1,fun f s=>?_⟩;obtain⟨f,rfl⟩:∃g,f=g+1:=⟨f-1,by omega⟩
 grind[rd.args]
theorem Ea.more{u:Tok}{q:List T}{a:T}{G:List Tok}{x:Rd (List T)}(ha:q≠[])(b:u.aj=3)(W:u.s=[44])(h:Ev e (.expr d) r (.ok (a,G)))(v:Ea e d (q++[a]) G x):Ea e d q (u::r) x:=by
 have⟨l,M⟩:=h;have⟨dV,z⟩:=v;refine⟨l+dV+1,fun f w=>?_⟩;obtain⟨f,rfl⟩:∃g,f=g+1:=⟨f-1,by omega⟩
 have o:aH (u::r) 0=[44]:=by simp only[aH,getElem?_cons_zero,dL,b,if_true,W]
 rw[rd.args,ab zfk,ab ha,ba,ae o];grind
theorem Ea.X3{u:Tok}{q:List T}(ha:q≠[])(b:u.aj=3)(W:u.s=[44])(h:Ev e (.expr d) r (.error y)):Ea e d q (u::r) (.error y):=by
 have⟨l,M⟩:=h;refine⟨l+1,fun f v=>?_⟩;obtain⟨f,rfl⟩:∃g,f=g+1:=⟨f-1,by omega⟩
 have o:aH (u::r) 0=[44]:=by simp only[aH,getElem?_cons_zero,dL,b,if_true,W]
 rw[rd.args,ab zfk,ab ha,ba,ae o];grind
structure Stop(r:List Tok)(k:Nat):Prop where
 a:aH r 0≠[91]
 b:aH r 0≠[40]
 c:∀j,k<j->aH r 0 ∉ levels.getD j []
theorem Stop.mono{k':Nat}(h:Stop r k)(G:k<=k'):Stop r k':=⟨h.a,h.b,fun j o=>h.c j aK⟩
theorem Ev.lift{m:Nat}(h:Ev e (.level m d) ts (.ok (t,r)))(N:m<=9)(o:Stop r k):∀n,m=k+1+n->Ev e (.loop k d t) r x->Ev e (.level k d) ts x:=by
 intro n
 induction n generalizing m with
 |zero=>grind[Ev.level]
 |succ n q =>
  intro i v;exact q (m:=k+1+n) (Ev.level aK zfk (Ev.stop (o.c _ aK))) aK rfl v
theorem Ev.Rs{m:Nat}(h:Ev e (.level m d) ts (.error y))(N:m<=9):∀n,m=k+n->Ev e (.level k d) ts (.error y):=by
 intro n
 induction n generalizing m with
 |zero=>grind
 |succ n q=>grind[Ev.VS]
def Rt(e:Int)(k d:Nat)(ts rest:List Tok)(Q:T->Prop)(b:Bool):Prop :=
 (b=true->∃t,Q t/\(k<9->∀x,Ev e (.loop k d t) rest x->Ev e (.level k d) ts x)/\(k=9->Ev e (.level 9 d) ts (.ok (t,rest))))/\(b=false->∃s,Ev e (.level k d) ts (.error (9,s)))
def Ro(e:Int)(d:Nat)(ts rest:List Tok)(Q:T->Prop)(b:Bool):Prop :=
 (b=true->∃t,Q t/\Ev e (.operand d) ts (.ok (t,rest)))/\(b=false->∃s,Ev e (.operand d) ts (.error (9,s)))
def Rx(e:Int)(d:Nat)(ts rest:List Tok)(Q:T->Prop)(b:Bool):Prop :=
 (b=true->∃t,Q t/\Ev e (.expr d) ts (.ok (t,rest)))/\(b=false->∃s,Ev e (.expr d) ts (.error (9,s)))
def Ro.rt{rest:List Tok}{Q:T->Prop}{b:Bool}(h:Ro e d ts rest Q b)(G:k<=9)(o:Stop rest k):Rt e k d ts rest Q b:=by
 refine⟨fun s=>?_,fun s=>?_⟩
 ·have⟨t,z,v⟩:=h.1 s;exact⟨t,z,fun E x I=>Ev.lift (Ev.EU v) (a8 _) o (8-k) aK I,fun _=>Ev.EU v⟩
 ·have⟨u,z⟩:=h.2 s;exact⟨u,Ev.Rs (Ev.EU z) (a8 _) (9-k) aK⟩
theorem Rt.down{rest:List Tok}{Q:T->Prop}{b:Bool}{m:Nat}(h:Rt e m d ts rest Q b)(O:m<9)(G:k<=m)(o:Stop rest k):Rt e k d ts rest Q b:=by
 rcases Nat.lt_or_ge k m with i|N
 ·refine⟨fun s=>?_,fun s=>?_⟩
  ·have⟨t,z,v,_⟩:=h.1 s;have I:=v O _ (Ev.stop (o.c m i));exact⟨t,z,fun E x j=>Ev.lift I aK o (m-1-k) aK j,fun B=>by omega⟩
  ·have⟨u,z⟩:=h.2 s;exact⟨u,Ev.Rs z aK (m-k) aK⟩
 grind
theorem Rt.rx{rest:List Tok}{Q:T->Prop}{b:Bool}(h:Rt e 0 (d+1) ts rest Q b)(o:aH rest 0 ∉ levels.getD 0 []):Rx e d ts rest Q (decide (d<=60)&&b):=by
 by_cases n:d<=60
 ·have:(decide (d<=60)&&b)=b:=by simp[n]
  rw[this];refine⟨fun s=>?_,fun s=>?_⟩
  ·have⟨t,z,v,_⟩:=h.1 s
   grind[Ev.expr,Ev.stop]
  ·have⟨u,z⟩:=h.2 s
   grind[Ev.expr]
 ·have:(decide (d<=60)&&b)=false:=by simp[n]
  rw[this];exact⟨fun s=>(by cases s),fun _=>⟨_,Ev.XC aK⟩⟩
end
def Ev.Rz{e:Int}{d:Nat}{ts:List Tok}{x:Rd T}(h:Ev e (.level 9 d) ts x):Ev e (.operand d) ts x:=by
 have⟨k,M⟩:=h;refine⟨k,fun f s=>?_⟩;have:=M (f+1) aK
 grind[rd]
def Ro.Rz{e:Int}{d:Nat}{ts rest:List Tok}{Q:T->Prop}{b:Bool}(h:Rt e 9 d ts rest Q b):Ro e d ts rest Q b :=
 ⟨fun r=>by have⟨t,z,_,v⟩:=h.1 r;exact⟨t,z,(v rfl).Rz⟩,fun r=>by have⟨s,z⟩:=h.2 r;exact⟨s,z.Rz⟩⟩
theorem sP{t:Tok}{r:List Tok}{s:ai}(h:kf t=kS s):aH (t::r) 0=s:=by
 simp only[kf,kS,Prod.mk.injEq]at h;simp only[aH,getElem?_cons_zero,dL,h.1,if_true,h.2.2]
theorem Cd{t:Tok}{r:List Tok}(h:t.aj≠3):aH (t::r) 0=[]:=by
 simp only[aH,getElem?_cons_zero,dL,ab h]
theorem Ii{j:Nat}(h:9<=j):levels.getD j []=[]:=by
 rw[List.getD_eq_getElem?_getD,getElem?_eq_none (by simpa[levels]using h)];rfl
def Dd{r:List Tok}{s:ai}(h:aH r 0=s)(o:s=[]\/s=[41]\/s=[93]\/s=[44]\/s=[59]\/s=[61]):Stop r 0:=by
 have B:∀j,j<9->∀s:ai,(s=[]\/s=[41]\/s=[93]\/s=[44]\/s=[59]\/s=[61])->s ∉ levels.getD j []:=by
  intro j q s o
  have:∀j,j<9->∀s∈([[],[41],[93],[44],[59],[61]]:List ai),s ∉ levels.getD j []:=by decide
  grind
 refine⟨?_,?_,fun j _=>?_⟩
 ·grind
 ·grind
 grind[Nat.lt_or_ge,Ii]
def A8{r:List Tok}{s:ai}(h:aH r 0=s)(o:s=[]\/s=[41]\/s=[93]\/s=[44]\/s=[59]\/s=[61]):aH r 0 ∉ levels.getD 0 []:=by
 grind[levels]
def rQ{s:ai}(h:fX s=true):fg s<9/\s∈levels.getD (fg s) []/\s≠[91]/\s≠[40]/\∀j,fg s<j->s ∉ levels.getD j []:=by
 have N:s∈levels.flatten:=by
  grind[fX,qJ,List.mem_flatten]
 have c:∀s∈levels.flatten,fg s<9/\s∈levels.getD (fg s) []/\s≠[91]/\s≠[40]/\∀j,j<9->fg s<j->s ∉ levels.getD j []:=by decide
 grind[Nat.lt_or_ge,Ii]
def lu(a:E):Prop:=∀(e:Int)(k d:Nat)(Q i:List Tok),k<=a.lv->a.ok=true->Q.map kf=a.tk->Stop i k->Rt e k d (Q++i) i (fun t=>er t=a.tree) (a.fit d)
def W3(a:E):Prop:=∀(e:Int)(k d:Nat)(Q i:List Tok),k<=9->a.ok=true->Q.map kf=brk a.lv k a.tk->Stop i k->Rt e k d (Q++i) i (fun t=>er t=a.tree) (Hc a.lv k d a.fit)
section
variable{ts:List Tok}
theorem map_cons{k:K}{l:List K}(h:ts.map kf=k::l):∃t r,ts=t::r/\kf t=k/\r.map kf=l:=List.map_eq_cons_iff.1 h
theorem dZ{l m:List K}(h:ts.map kf=l++m):∃a b,ts=a++b/\a.map kf=l/\b.map kf=m:=List.map_eq_append_iff.1 h
theorem jv{k:K}(h:ts.map kf=[k]):∃t,ts=[t]/\kf t=k:=by
 simp_all
end
theorem ff{t:Tok}{s:ai}(h:kf t=kS s):t.aj=3/\t.s=s:=by simp_all[kf,kS,Prod.mk.injEq]
def qw{t:Tok}{s:ai}(h:kf t=kN s):t.aj=2/\t.s=s:=by simp_all[kf,kN,Prod.mk.injEq]
def Po{t:Tok}{n:Int}(h:kf t=kI n):t.aj=1/\t.n=n:=by simp_all[kf,kI,Prod.mk.injEq]
def lu.rx{a:E}(h:lu a){e:Int}{d:Nat}{ts rest:List Tok}{s:ai}(S:a.ok=true)(H:ts.map kf=a.tk)(o:aH rest 0=s)(M:s=[]\/s=[41]\/s=[93]\/s=[44]\/s=[59]\/s=[61]) :
  Rx e d (ts++rest) rest (fun t=>er t=a.tree) (decide (d<=60)&&a.fit (d+1)):=(h e 0 (d+1) ts rest (bj _) S H (Dd o M)).rx (A8 o M)
def lu.good{a:E}(h:lu a):W3 a:=by
 intro e k d Q rest G S H o;unfold brk at H;unfold Hc
 by_cases W:a.lv<k
 ·rw[ae W]at H |-;obtain⟨t,r,rfl,z,C⟩:=map_cons H;obtain⟨A,B,rfl,I,c⟩:=dZ C;obtain⟨u,rfl,F⟩:=jv c;have⟨z,b⟩:=ff z;have⟨F,w⟩:=ff F;have hx:=h.rx (e:=e) (d:=d+1) (rest:=u::rest) (s:=[41]) S I (by simp only[aH,getElem?_cons_zero,dL,F,if_true,w]) zfm;refine Ro.rt ?_ G o
  have i:t::(A++[u])++rest=t::(A++u::rest):=by simp
  rw[i]
  by_cases n:d<=60
  ·have:(decide (d<=60)&&decide (d+1<=60)&&a.fit (d+2))=(decide (d+1<=60)&&a.fit (d+1+1)):=by simp[n]
   rw[this];refine⟨fun v=>?_,fun v=>?_⟩
   ·have⟨O,J,j⟩:=hx.1 v
    grind[Ev.par]
   ·have⟨M,J⟩:=hx.2 v
    grind[Ev.aaA]
  ·have:(decide (d<=60)&&decide (d+1<=60)&&a.fit (d+2))=false:=by simp[n]
   rw[this];exact⟨fun v=>(by cases v),fun _=>⟨_,Ev.QN aK⟩⟩
 ·rw[ab W]at H |-;exact h e k d Q rest aK S H o
def sO{e:Int}{d:Nat}{ts rest:List Tok}{Q:T->Prop}{b:Bool}(h:d<=60->Ro e d ts rest Q b):Ro e d ts rest Q (decide (d<=60)&&b):=by
 by_cases n:d<=60
 ·grind
 ·have:(decide (d<=60)&&b)=false:=by simp[n]
  rw[this];exact⟨fun r=>(by cases r),fun _=>⟨_,Ev.QN aK⟩⟩
theorem nz{s:ai}(h:cb s=true):s.length<=12:=by
 simp_all[Go.Sp.cb,a6,decide_eq_true_eq]
def OY(n:Int):lu (.num n):=by
 intro e k d ts rest G S H q;obtain⟨t,rfl,z⟩:=jv H;have⟨z,v⟩:=Po z;refine Ro.rt ?_ G q
 have:=sO (e:=e) (d:=d) (ts:=[t]++rest) (rest:=rest) (Q:=fun t=>er t=(E.num n).tree) (b:=true) fun o=>⟨fun _=>⟨_,?_,Ev.num o z⟩,fun h=>by cases h⟩
 ·grind[E.fit]
 ·show er _=_;rw[er,E.tree,v];rfl
def Lr(s:ai):lu (.name s):=by
 intro e k d ts rest G S H o;obtain⟨t,rfl,z⟩:=jv H;have⟨z,v⟩:=qw z;simp only[E.ok]at S;refine Ro.rt ?_ G o
 have:=sO (e:=e) (d:=d) (ts:=[t]++rest) (rest:=rest) (Q:=fun t=>er t=(E.name s).tree) (b:=true) fun n=>⟨fun _=>⟨_,?_,Ev.name n z (by grind[nz]) o.a o.b⟩,fun h=>by cases h⟩
 ·grind[E.fit]
 ·show er _=_;rw[eY,E.tree,v];rfl
def Sk(s:ai){a:E}(C:lu a):lu (.at_ s a):=by
 intro e k d m rest O T H o;simp only[E.ok,a6]at T;rw[E.tk]at H;obtain⟨t,r,rfl,z,G⟩:=map_cons H;obtain⟨u,r,rfl,I,c⟩:=map_cons G;obtain⟨A,B,rfl,J,M⟩:=dZ c;obtain⟨w,rfl,W⟩:=jv M;have⟨z,b⟩:=qw z;have⟨I,S⟩:=ff I;have⟨W,N⟩:=ff W
 have j:t.s.length<=12:=by grind[nz]
 have hx:=C.rx (e:=e) (d:=d+1) (rest:=w::rest) (s:=[93]) T.2 J (by simp only[aH,getElem?_cons_zero,dL,W,if_true,N]) zfm;refine Ro.rt ?_ O o
 have i:t::u::(A++[w])++rest=t::u::(A++w::rest):=by simp
 rw[i,E.fit,Bool.and_assoc]
 refine sO fun n=>⟨fun v=>?_,fun v=>?_⟩
 ·have⟨R,F,l⟩:=hx.1 v;exact⟨_,by show er _=_;rw[eY,bp,F,b,E.tree];rfl,Ev.ix n z j I S W N l⟩
 ·have⟨Q,F⟩:=hx.2 v
  grind[Ev.Zf]
def Sm(s:ai){a:E}(C:lu a):lu (.un s a):=by
 intro e k d Q i I S J o;simp only[E.ok,a6,Bool.or_eq_true,beq_iff_eq]at S;rw[E.tk]at J;obtain⟨t,r,rfl,z,w⟩:=map_cons J;have⟨z,W⟩:=ff z;have F:k<=9:=I;have H:=Ro.Rz (C.good e 9 (d+1) r i (a8 _) S.2 w (o.mono F));refine Ro.rt ?_ I o
 have G:t.s=[45]\/t.s=[33]\/t.s=[126]:=by grind
 rw[E.fit]
 refine sO fun n=>⟨fun u=>?_,fun u=>?_⟩
 ·have⟨O,v,j⟩:=H.1 u;exact⟨_,by show er _=_;rw[eY,bp,v,W,E.tree];rfl,Ev.un n z G j⟩
 ·have⟨A,v⟩:=H.2 u
  grind[Ev.unX]
def OV(s:ai){a b:E}(N:lu a)(O:lu b):lu (.bin s a b):=by
 intro e k d ts i hk v I H;simp only[E.ok,a6]at v;have⟨J,l2,l3,l4,l5⟩:=rQ v.1.1;rw[E.tk]at I;obtain⟨A,B,rfl,R,S⟩:=dZ I;obtain⟨t,r,rfl,u,T⟩:=map_cons S;have⟨u,l⟩:=ff u;have o:k<=fg s:=hk;have q:=H.mono o;refine Rt.down (m:=fg s) ?_ J o H
 have Av:aH (t::(r++i)) 0=s:=by simp only[aH,getElem?_cons_zero,dL,u,if_true,l]
 have G:=N.good e (fg s) d A (t::(r++i)) aK v.1.2 R ⟨by grind,by grind,fun j hj=>by grind⟩;have Q:=O.good e (fg s+1) d r i aK v.2 T (q.mono aK)
 have W:A++t::r++i=A++t::(r++i):=by simp
 rw[W,E.fit]
 change Rt e (fg s) d _ i _ (Hc a.lv (fg s) d a.fit&&Hc b.lv (fg s+1) d b.fit)
 have F:t.s∈levels.getD (fg s) []:=by grind
 cases n:Hc a.lv (fg s) d a.fit with
 |false =>
  refine⟨fun z=>(by cases z),fun _=>G.2 n⟩
 |true =>
  have⟨ta,k1,k2,_⟩:=G.1 n
  cases C:Hc b.lv (fg s+1) d b.fit with
  |false =>
   grind[Ev.goX,Rt,fg,er,E.tree]
  |true =>
   refine⟨fun _=>?_,fun z=>(by cases z)⟩;have⟨M,k3,k4,k5⟩:=Q.1 C
   have k6:Ev e (.level (fg s+1) d) (r++i) (.ok (M,i)):=by
    rcases Nat.lt_or_ge (fg s+1) 9 with w|w
    ·exact k4 w _ (Ev.stop (q.c _ aK))
    grind
   exact⟨one 6 t.at_ t.s [ta,M],by show er _=_;rw[eY,bp,bp,bp,k1,k3,l,E.tree],fun _ x hx=>k2 J x (Ev.go u F k6 hx),fun w=>by omega⟩
def QW(k:K):Prop:=k.1=1\/k.1=2\/(k.1=3/\(k.2.2=[45]\/k.2.2=[33]\/k.2.2=[126]\/k.2.2=[40]))
theorem E.head:∀(a:E),a.ok=true->∃k r,a.tk=k::r/\QW k
 |.num n,_=>⟨_,_,rfl,.inl rfl⟩
 |.name s,_=>⟨_,_,rfl,.inr (.inl rfl)⟩
 |.at_ s a,_=>⟨_,_,rfl,.inr (.inl rfl)⟩
 |.call s l,_=>⟨_,_,rfl,.inr (.inl rfl)⟩
 |.un s a,h=>⟨_,_,rfl,.inr (.inr ⟨rfl,by simp only[E.ok,a6,Bool.or_eq_true,beq_iff_eq]at h;grind⟩)⟩
 |.bin s a b,h=>by
  simp only[E.ok,a6]at h;have⟨k,r,z,v⟩:=E.head a h.1.2;rw[E.tk,brk];split
  ·exact⟨_,_,rfl,.inr (.inr ⟨rfl,by simp⟩)⟩
  grind
theorem zq{t:Tok}{r:List Tok}(h:QW (kf t)):aH (t::r) 0=[]\/aH (t::r) 0=[45]\/aH (t::r) 0=[33]\/aH (t::r) 0=[126]\/aH (t::r) 0=[40]:=by
 rcases h with h|h|⟨h,W⟩
 ·grind[Cd,kf]
 ·grind[Cd,kf]
 ·right
  have:aH (t::r) 0=t.s:=by simp only[kf]at h;simp only[aH,getElem?_cons_zero,dL,h,if_true]
  rw[this];exact W
def xS(l:List E):Prop:=∀(e:Int)(d:Nat)(q:List T)(Q i:List Tok)(u:Tok),E.dv l=true->q≠[]->Q.map kf=E.qE l->u.aj=3->u.s=[41] ->
 (E.fits l d=true->∃I,bp I=E.aJ l/\Ea e d q (Q++u::i) (.ok (q++I,i)))/\(E.fits l d=false->∃r,Ea e d q (Q++u::i) (.error (9,r)))
def Lo:xS []:=by
 intro e d q Q i u _ O H b W
 have:Q=[]:=by simp_all[E.qE]
 subst this;exact⟨fun _=>⟨[],rfl,by grind[Ea.nil]⟩,fun h=>by simp[E.fits]at h⟩
def Df{l:List E}{ts rest:List Tok}{u:Tok}(H:ts.map kf=E.qE l)(b:u.aj=3)(W:u.s=[41]):∃s,aH (ts++u::rest) 0=s/\(s=[]\/s=[41]\/s=[93]\/s=[44]\/s=[59]\/s=[61]):=by
 cases l with
 |nil =>
  have:ts=[]:=by simp_all[E.qE]
  subst this;exact⟨[41],by simp only[List.nil_append,aH,getElem?_cons_zero,dL,b,if_true,W],by simp⟩
 |cons a l =>
  grind[E.qE,map_cons,sP]
def JI{a:E}{l:List E}(F:lu a)(G:xS l):xS (a::l):=by
 intro e d i ts rest u n J w z c;simp only[E.dv,a6]at n;rw[E.qE]at w;obtain⟨t,r,rfl,j,H⟩:=map_cons w;obtain⟨A,B,rfl,I,v⟩:=dZ H;have⟨j,k⟩:=ff j;have⟨s,o,q⟩:=Df (rest:=rest) v z c;have hx:=F.rx (e:=e) (d:=d) (rest:=B++u::rest) (s:=s) n.1 I o q
 have M:t::(A++B)++u::rest=t::(A++(B++u::rest)):=by simp
 rw[M,E.fits]
 cases b:decide (d<=60)&&a.fit (d+1)with
 |false =>
  refine⟨fun m=>(by simp at m),fun _=>?_⟩;have⟨R,O⟩:=hx.2 b
  grind[Ea.X3]
 |true =>
  have⟨C,O,Q⟩:=hx.1 b;have N:=G e d (i++[C]) B rest u n.2 zfm v z c;refine⟨fun m=>?_,fun m=>?_⟩
  ·have⟨S,T,W⟩:=N.1 zfk;exact⟨C::S,by grind[bp,E.aJ],Ea.more J j k Q zfk⟩
  grind[Ea.more]
def Lq(s:ai){l:List E}(Cf:∀a r,l=a::r->lu a/\xS r):lu (.call s l):=by
 intro e k d ts rest hk R S hs;simp only[E.ok,a6]at R;rw[E.tk]at S;obtain⟨t,r,rfl,G,h2⟩:=map_cons S;obtain⟨u,r,rfl,c,C⟩:=map_cons h2;obtain⟨A,B,rfl,Q,h6⟩:=dZ C;obtain⟨w,rfl,o⟩:=jv h6;have⟨G,H⟩:=qw G;have⟨c,I⟩:=ff c;have⟨o,i⟩:=ff o
 have hl:t.s.length<=12:=by grind[nz]
 refine Ro.rt ?_ hk hs
 have he:t::u::(A++[w])++rest=t::u::(A++w::rest):=by simp
 rw[he,E.fit]
 refine sO fun hd=>?_
 have O:(E.fits l (d+1)=true->∃z,bp z=E.aJ l/\Ea e (d+1) [] (A++w::rest) (.ok (z,rest)))/\(E.fits l (d+1)=false->∃j,Ea e (d+1) [] (A++w::rest) (.error (9,j))):=by
  cases l with
  |nil =>
   have:A=[]:=by simp_all[E.nJ]
   subst this;exact⟨fun _=>⟨[],rfl,Ea.nil o i⟩,fun h=>by simp[E.fits]at h⟩
  |cons a l =>
   have⟨Ca,Cl⟩:=Cf a l rfl;have b:=R.2;simp only[E.dv,a6]at b;rw[E.nJ]at Q;obtain⟨A,B,rfl,c,C⟩:=dZ Q;have⟨s,M,N⟩:=Df (rest:=rest) C o i;have hx:=Ca.rx (e:=e) (d:=d+1) (rest:=B++w::rest) (s:=s) b.1 c M N;rw[eU]
   have v:aH (A++(B++w::rest)) 0≠[41]:=by
    have⟨kk,rr,n,F⟩:=E.head a b.1;rw[n]at c;obtain⟨t0,r0,rfl,k3,_⟩:=map_cons c
    grind[zq]
   rw[E.fits]
   cases q:decide (d+1<=60)&&a.fit (d+1+1)with
   |false =>
    refine⟨fun m=>(by simp at m),fun _=>?_⟩;have⟨j,n⟩:=hx.2 q;exact⟨j,Ea.UT (a:=T.mk ⟨0,0,0,[],[]⟩ []) v n⟩
   |true =>
    have⟨W,n,F⟩:=hx.1 q;have J:=Cl e (d+1) [W] B rest w b.2 zfm C o i;refine⟨fun m=>?_,fun m=>?_⟩
    ·have⟨z,k3,k4⟩:=J.1 zfk;exact⟨W::z,by grind[bp,E.aJ],Ea.first v F k4⟩
    grind[Ea.first]
 refine⟨fun m=>?_,fun m=>?_⟩
 ·have⟨z,n,F⟩:=O.1 m;exact⟨_,by show er _=_;rw[eY,n,H,E.tree],Ev.call hd G hl c I F⟩
 grind[Ev.Xk]
mutual
def core:∀(a:E),lu a
 |.num n=>OY n
 |.name s=>Lr s
 |.at_ s a=>Sk s (core a)
 |.call s l=>Lq s (Xl l)
 |.un s a=>Sm s (core a)
 |.bin s a b=>OV s (core a) (core b)
def Xl:∀(l:List E),∀a r,l=a::r->lu a/\xS r
 |[]=>fun a r h=>by cases h
 |a::r=>fun d G h=>by cases h;exact⟨core a,Lp r⟩
def Lp:∀(l:List E),xS l
 |[]=>Lo
 |a::l=>JI (core a) (Lp l)
end
inductive S where
 |set (s:ai) (a:E)
 |put (s:ai) (a b:E)
 |if1 (c:E) (b:List S)
 |if2 (c:E) (b b2:List S)
 |while_ (c:E) (b:List S)
 |ret (a:E)
 |do_ (a:E)
 |var (s:ai) (a:E)
mutual
def S.tk:S->List K
 |.set s a=>kN s::kS [61]::(a.tk++[kS [59]])
 |.put s a b=>kN s::kS [91]::(a.tk++kS [93]::kS [61]::(b.tk++[kS [59]]))
 |.if1 c b=>kS gb::kS [40]::(c.tk++kS [41]::kS [123]::(S.nJ b++[kS [125]]))
 |.if2 c b T=>kS gb::kS [40]::(c.tk++kS [41]::kS [123]::(S.nJ b++kS [125]::kS iz::kS [123]::(S.nJ T++[kS [125]])))
 |.while_ c b=>kS gz::kS [40]::(c.tk++kS [41]::kS [123]::(S.nJ b++[kS [125]]))
 |.ret a=>kS gK::(a.tk++[kS [59]])
 |.do_ a=>a.tk++[kS [59]]
 |.var s a=>kS lX::kN s::kS [61]::(a.tk++[kS [59]])
def S.nJ:List S->List K
 |[]=>[]
 |a::l=>a.tk++S.nJ l
end
mutual
def S.tree:S->T
 |.set s a=>.mk ⟨7,0,0,s,[]⟩ [a.tree]
 |.put s a b=>.mk ⟨8,0,0,s,[]⟩ [a.tree,b.tree]
 |.if1 c b=>.mk ⟨9,0,0,[],[]⟩ [c.tree,.mk ⟨14,0,0,[],[]⟩ (S.aJ b)]
 |.if2 c b W=>.mk ⟨9,0,0,[],[]⟩ [c.tree,.mk ⟨14,0,0,[],[]⟩ (S.aJ b),.mk ⟨14,0,0,[],[]⟩ (S.aJ W)]
 |.while_ c b=>.mk ⟨10,0,0,[],[]⟩ [c.tree,.mk ⟨14,0,0,[],[]⟩ (S.aJ b)]
 |.ret a=>.mk ⟨11,0,0,[],[]⟩ [a.tree]
 |.do_ a=>.mk ⟨12,0,0,[],[]⟩ [a.tree]
 |.var s a=>.mk ⟨13,0,0,s,[]⟩ [a.tree]
def S.aJ:List S->List T
 |[]=>[]
 |a::l=>a.tree::S.aJ l
end
def qu(a:E)(d:Nat):Bool:=decide (d<=60)&&a.fit (d+1)
mutual
def S.fit:S->Nat->Bool
 |.set _ a,d=>decide (d<=60)&&qu a (d+1)
 |.put s a b,d=>decide (d<=60)&&(qu (.at_ s a) (d+1)&&qu b (d+1))
 |.if1 c b,d=>decide (d<=60)&&(qu c (d+1)&&(decide (d+1<=60)&&S.fits b (d+2)))
 |.if2 c b T,d=>decide (d<=60)&&(qu c (d+1)&&((decide (d+1<=60)&&S.fits b (d+2))&&(decide (d+1<=60)&&S.fits T (d+2))))
 |.while_ c b,d=>decide (d<=60)&&(qu c (d+1)&&(decide (d+1<=60)&&S.fits b (d+2)))
 |.ret a,d=>decide (d<=60)&&qu a (d+1)
 |.do_ a,d=>decide (d<=60)&&qu a (d+1)
 |.var _ a,d=>decide (d<=60)&&qu a (d+1)
def S.fits:List S->Nat->Bool
 |[],_=>true
 |a::l,d=>a.fit d&&S.fits l d
end
mutual
def S.ok:S->Bool
 |.set s a=>cb s&&a.ok
 |.put s a b=>cb s&&(a.ok&&b.ok)
 |.if1 c b=>c.ok&&S.dv b
 |.if2 c b T=>c.ok&&(S.dv b&&S.dv T)
 |.while_ c b=>c.ok&&S.dv b
 |.ret a=>a.ok
 |.do_ a=>a.ok
 |.var s a=>cb s&&a.ok
def S.dv:List S->Bool
 |[]=>true
 |a::l=>a.ok&&S.dv l
end
def Es(e:Int)(j:sV)(ts:List Tok)(x:Rd T):Prop:=∃k,∀f,k<=f->rs e f j ts=x
def Eb(e:Int)(d:Nat)(q:List T)(ts:List Tok)(x:Rd (List T)):Prop:=∃k,∀f,k<=f->rs.body e f d q ts=x
def Ev.ex{e:Int}{d:Nat}{ts:List Tok}{x:Rd T}(h:Ev e (.expr d) ts x):Go.Xp.expr e d ts=x:=by
 have⟨k,M⟩:=h;rw[<-BG (e:=e) (d:=d) (ts:=ts) (f:=k+(20*ts.length+12)) aK]
 grind
def Xx(e:Int)(d:Nat)(ts rest:List Tok)(Q:T->Prop)(b:Bool):Prop :=
 (b=true->∃t,Q t/\expr e d ts=.ok (t,rest))/\(b=false->∃r,expr e d ts=.error (9,r))
def Rx.xx{e:Int}{d:Nat}{ts rest:List Tok}{Q:T->Prop}{b:Bool}(h:Rx e d ts rest Q b):Xx e d ts rest Q b :=
 ⟨fun r=>by have⟨t,z,v⟩:=h.1 r;exact⟨t,z,v.ex⟩,fun r=>by have⟨s,z⟩:=h.2 r;exact⟨s,z.ex⟩⟩
def E.xx{a:E}{e:Int}{d:Nat}{ts rest:List Tok}{s:ai}(S:a.ok=true)(H:ts.map kf=a.tk)(o:aH rest 0=s)(M:s=[]\/s=[41]\/s=[93]\/s=[44]\/s=[59]\/s=[61]) :
  Xx e d (ts++rest) rest (fun t=>er t=a.tree) (qu a d):=((core a).rx S H o M).xx
def Sx(e:Int)(j:sV)(ts rest:List Tok)(Q:T->Prop)(b:Bool):Prop :=
 (b=true->∃t,Q t/\Es e j ts (.ok (t,rest)))/\(b=false->∃r,Es e j ts (.error (9,r)))
section
variable{e:Int}{d:Nat}{ts rest:List Tok}{Q:T->Prop}{b:Bool}
def sc{j:sV}{x:Rd T}(o:∀f,rs e (f+1) j ts=x):Es e j ts x :=
 ⟨1,fun f s=>by obtain⟨f,rfl⟩:∃g,f=g+1:=⟨f-1,by omega⟩;exact o f⟩
theorem qj(h:d<=60->Sx e (.stmt d) ts rest Q b):Sx e (.stmt d) ts rest Q (decide (d<=60)&&b):=by
 by_cases n:d<=60
 ·grind
 ·have:(decide (d<=60)&&b)=false:=by simp[n]
  exact zdC
theorem qX{u:Tok}{s:ai}(c:u.aj=3)(W:u.s=s):ba e s (u::rest)=.ok rest:=by
 have o:aH (u::rest) 0=s:=by simp only[aH,getElem?_cons_zero,dL,c,if_true,W]
 grind[ba]
def tJ{u:Tok}{s:ai}(c:u.aj=3)(W:u.s=s):aH (u::rest) 0=s:=by simp only[aH,getElem?_cons_zero,dL,c,if_true,W]
theorem ve{a:E}{u w:Tok}{A:List Tok}{B o:ai}(S:a.ok=true)(H:A.map kf=a.tk)(c:u.aj=3)(W:u.s=B)(i:w.aj=3)(z:w.s=o)(J:o=[]\/o=[41]\/o=[93]\/o=[44]\/o=[59]\/o=[61]) :
  (qu a d=true->∃t,er t=a.tree/\inner e d B o (u::(A++w::rest))=.ok (t,rest))/\(qu a d=false->∃r,inner e d B o (u::(A++w::rest))=.error (9,r)):=by
 have hx:=E.xx (e:=e) (d:=d) (rest:=w::rest) S H (tJ i z) J;unfold inner;rw[qX c W];refine⟨fun v=>?_,fun v=>?_⟩
 ·have⟨t,C,F⟩:=hx.1 v
  grind[qX]
 ·have⟨r,C⟩:=hx.2 v
  grind
theorem IP{a:E}{v u w:Tok}{A:List Tok}(S:a.ok=true)(N:v.aj=2)(B:v.s.length<=12)(H:A.map kf=a.tk)(c:u.aj=3)(W:u.s=[61])(i:w.aj=3)(z:w.s=[59]) :
  (qu a d=true->∃t,er t=a.tree/\l9 e d (v::u::(A++w::rest))=.ok ((v.s,t),rest))/\(qu a d=false->∃r,l9 e d (v::u::(A++w::rest))=.error (9,r)):=by
 have M:=ve (e:=e) (d:=d) (rest:=rest) S H c W i z zfm;unfold l9
 grind[sL]
theorem jQ{t:Tok}{s:ai}(h:t.aj=2)(o:s≠[]):aH (t::rest) 0≠s:=by grind[Cd]
def ru(s:S):Prop:=∀(e:Int)(d:Nat)(ts rest:List Tok),s.ok=true->ts.map kf=s.tk->aH rest 0≠iz->Sx e (.stmt d) (ts++rest) rest (fun t=>er t=s.tree) (s.fit d)
theorem O1(s:ai)(a:E):ru (.set s a):=by
 intro e d ts rest i H _;simp only[S.ok,a6]at i;rw[S.tk]at H;obtain⟨t,r,rfl,z,G⟩:=map_cons H;obtain⟨u,r,rfl,I,k⟩:=map_cons G;obtain⟨A,B,rfl,J,M⟩:=dZ k;obtain⟨w,rfl,c⟩:=jv M;have⟨z,W⟩:=qw z;have⟨I,T⟩:=ff I;have⟨c,N⟩:=ff c
 have l:t::u::(A++[w])++rest=t::u::(A++w::rest):=by simp
 have hx:=IP (e:=e) (d:=d+1) (rest:=rest) i.2 z (by grind[nz]) J I T c N;rw[l,S.fit];have j:t.aj=2/\aH (t::u::(A++w::rest)) 1=[61]:=⟨z,by simp only[aH,List.getElem?_cons_succ,getElem?_cons_zero,dL,I,if_true,T]⟩
 refine qj fun n=>⟨fun v=>?_,fun v=>?_⟩
 ·have⟨O,F,m⟩:=hx.1 v;refine⟨one 7 t.at_ t.s [O],by show er _=_;rw[eY,bp,F,W,S.tree];rfl,sc fun f=>?_⟩;refine zdx ?_;rw[ab (jQ z aE),ab (fun h=>h.elim (jQ z aE) (jQ z aE)),ab (jQ z aE)];simp only[simple];grind
 ·have⟨C,F⟩:=hx.2 v;refine⟨C,sc fun f=>?_⟩;refine zdx ?_;rw[ab (jQ z aE),ab (fun h=>h.elim (jQ z aE) (jQ z aE)),ab (jQ z aE)]
  grind[simple]
theorem O3(s:ai)(a:E):ru (.var s a):=by
 intro e d ts rest i H _;simp only[S.ok,a6]at i;rw[S.tk]at H;obtain⟨v,r,rfl,M,H⟩:=map_cons H;obtain⟨t,r,rfl,z,J⟩:=map_cons H;obtain⟨u,r,rfl,I,j⟩:=map_cons J;obtain⟨A,B,rfl,R,k⟩:=dZ j;obtain⟨w,rfl,c⟩:=jv k;have⟨M,O⟩:=ff M;have⟨z,W⟩:=qw z;have⟨I,T⟩:=ff I;have⟨c,N⟩:=ff c
 have l:v::t::u::(A++[w])++rest=v::t::u::(A++w::rest):=by simp
 have hx:=IP (e:=e) (d:=d+1) (rest:=rest) i.2 z (by grind[nz]) R I T c N;rw[l,S.fit]
 refine qj fun o=>⟨fun C=>?_,fun C=>?_⟩
 ·have⟨n,G,m⟩:=hx.1 C;refine⟨one 13 v.at_ t.s [n],by show er _=_;rw[eY,bp,G,W,S.tree];rfl,sc fun f=>?_⟩;refine zdx ?_;rw[ae (tJ M O),tail_cons,m];rfl
 ·have⟨F,G⟩:=hx.2 C;refine⟨F,sc fun f=>?_⟩;rw[rs,ab aK];simp_all[ae,tJ,tail_cons]
def O0(a:E):ru (.ret a):=by
 intro e d ts rest T H _;simp only[S.ok]at T;rw[S.tk]at H;obtain⟨v,r,rfl,M,c⟩:=map_cons H;obtain⟨A,B,rfl,F,I⟩:=dZ c;obtain⟨w,rfl,W⟩:=jv I;have⟨M,O⟩:=ff M;have⟨W,N⟩:=ff W
 have i:v::(A++[w])++rest=v::(A++w::rest):=by simp
 have hx:=E.xx (e:=e) (d:=d+1) (rest:=w::rest) T F (tJ W N) zfm;rw[i,S.fit];have o:=tJ (rest:=A++w::rest) M O
 refine qj fun n=>⟨fun s=>?_,fun s=>?_⟩
 ·have⟨R,t,j⟩:=hx.1 s;refine⟨one 11 v.at_ [] [R],by show er _=_;rw[eY,bp,t,S.tree];rfl,sc fun f=>?_⟩;refine zdx ?_;rw[ab zfK,ab zfK,ae o,tail_cons,j];simp only;rw[qX W N];rfl
 ·have⟨u,t⟩:=hx.2 s;refine⟨u,sc fun f=>?_⟩;refine zdx ?_;rw[ab zfK,ab zfK,ae o,tail_cons,t]
def oz(l:List K):Prop:=∀k∈l,k.1=3->k.2.2≠[61]
theorem wy{l m:List K}:oz (l++m)↔oz l/\oz m:=by
 unfold oz;constructor
 ·intro h;exact⟨fun k G=>h k (List.mem_append_left _ G),fun k G=>h k (List.mem_append_right _ G)⟩
 grind
def l6{a:K}{l:List K}:oz (a::l)↔(a.1=3->a.2.2≠[61])/\oz l:=by
 simp[oz,K,ai]
def E5:oz []:=fun k G=>by cases G
theorem xy{lv k:Nat}{x:List K}(h:oz x):oz (brk lv k x):=by
 grind[oz,brk]
mutual
def E.yo:∀(a:E),a.ok=true->oz a.tk
 |.num n,_=>by simp[oz,tk]
 |.name s,_=>by simp[oz,tk]
 |.at_ s a,h=>by
  simp only[E.ok,a6]at h;rw[E.tk,l6,l6,wy,l6];exact⟨fun h=>zfu,fun _=>aE,E.yo a h.2,fun _=>aE,E5⟩
 |.call s l,h=>by
  simp only[E.ok,a6]at h;rw[E.tk,l6,l6,wy,l6];exact⟨fun h=>zfu,fun _=>aE,(E.M7 l h.2).1,fun _=>aE,E5⟩
 |.un s a,h=>by
  simp only[E.ok,a6,Bool.or_eq_true,beq_iff_eq]at h;rw[E.tk,l6];exact⟨fun _=>(by rcases h.1 with(h|h)|h<;>(simp only[kS,h];decide)),xy (E.yo a h.2)⟩
 |.bin s a b,h=>by
  simp only[E.ok,a6]at h;rw[E.tk,wy,l6];exact⟨xy (E.yo a h.1.2),fun _ M=>(by simp only[kS]at M;rw[M]at h;exact absurd h.1.1 aE),xy (E.yo b h.2)⟩
def E.M7:∀(l:List E),E.dv l=true->oz (E.nJ l)/\oz (E.qE l)
 |[],_=>by simp[oz,nJ,qE]
 |a::l,h=>by
  simp only[E.dv,a6]at h
  simp_all[E.yo,E.M7,E.nJ,E.qE,wy,l6]
end
theorem Ku{ts:List Tok}{k:Nat}{s:ai}(h:∀t,ts[k]?=some t->t.aj=3->t.s≠s)(o:s≠[]):aH ts k≠s:=by
 unfold aH
 grind[dL]
theorem Gf{a:E}{A:List Tok}{w:Tok}(S:a.ok=true)(G:A.map kf=a.tk)(i:w.s≠[61]):aH (A++w::rest) 1≠[61]:=by
 have⟨J,r0,v,_⟩:=E.head a S;refine Ku (fun t H I F=>?_) aE
 have u:1<=A.length:=by
  grind
 rw[getElem?_append]at H;split at H
 ·have N:kf t∈a.tk:=by grind
  exact E.yo a S _ N I F
 grind
theorem Sl(a:E):ru (.do_ a):=by
 intro e d ts rest T H _;simp only[S.ok]at T;rw[S.tk]at H;obtain⟨A,B,rfl,F,I⟩:=dZ H;obtain⟨w,rfl,W⟩:=jv I;have⟨W,N⟩:=ff W
 have j:A++[w]++rest=A++w::rest:=by simp
 have hx:=E.xx (e:=e) (d:=d+1) (rest:=w::rest) T F (tJ W N) zfm;have c:=Gf (rest:=rest) (w:=w) T F zfk;have⟨M,r0,J,G⟩:=E.head a T;obtain⟨t,r,rfl,O,_⟩:=map_cons (by rw[<-J];exact F);rw[j,S.fit];rw[List.cons_append]at hx c |-;have n:=zq (r:=r++w::rest) (by rw[O];exact G)
 have i:¬(t.aj=2/\aH (t::(r++w::rest)) 1=[61]):=fun h=>c h.2
 have u:∀s:ai,s=lX\/s=gb\/s=gz\/s=gK->aH (t::(r++w::rest)) 0≠s:=by
  intro s o;rcases n with h|h|h|h|h<;>rcases o with rfl|rfl|rfl|rfl<;>(rw[h];decide)
 refine qj fun q=>⟨fun v=>?_,fun v=>?_⟩
 ·have⟨R,C,k⟩:=hx.1 v;refine⟨one 12 t.at_ [] [R],by show er _=_;rw[eY,bp,C,S.tree];rfl,sc fun f=>?_⟩;refine zem ?_;simp only[simple];simp_all[ab,tJ,qX]
 ·have⟨z,C⟩:=hx.2 v;refine⟨z,sc fun f=>?_⟩;refine zem ?_
  grind[simple]
theorem ZC{s:ai}{a:E}{t u w:Tok}{A:List Tok}{C:ai}(hn:cb s=true)(T:a.ok=true)(z:t.aj=2)(W:t.s=s)(I:u.aj=3)(S:u.s=[91])(F:A.map kf=a.tk)(i:w.aj=3)(N:w.s=[93])(o:aH rest 0=C)(M:C=[]\/C=[41]\/C=[93]\/C=[44]\/C=[59]\/C=[61]) :
  Xx e d (t::u::(A++w::rest)) rest (fun x=>er x=(E.at_ s a).tree/\x.n.aj=3/\x.n.at_=t.at_/\x.n.s=s/\∃y,x.au=[y]/\er y=a.tree) (qu (.at_ s a) d):=by
 have j:t.s.length<=12:=by grind[nz]
 have hx:=(core a).rx (e:=e) (d:=d+1+1) (rest:=w::rest) (s:=[93]) T F (tJ i N) zfm
 have c:Ro e (d+1) (t::u::(A++w::rest)) rest (fun x=>er x=(E.at_ s a).tree/\x.n.aj=3/\x.n.at_=t.at_/\x.n.s=s/\∃y,x.au=[y]/\er y=a.tree) ((E.at_ s a).fit (d+1)):=by
  rw[E.fit,Bool.and_assoc]
  refine sO fun q=>⟨fun r=>?_,fun r=>?_⟩
  ·have⟨O,v,k⟩:=hx.1 r;exact⟨one 3 t.at_ t.s [O],⟨by rw[eY,bp,v,W,E.tree];rfl,rfl,rfl,W,_,rfl,v⟩,Ev.ix q z j I S i N k⟩
  ·have⟨B,v⟩:=hx.2 r
   grind[Ev.Zf]
 exact((c.rt (bj 9) (Dd o M)).rx (A8 o M)).xx
theorem OZ(s:ai)(a b:E):ru (.put s a b):=by
 intro e d ts rest F ht _;simp only[S.ok,a6]at F;rw[S.tk]at ht;obtain⟨t,r,rfl,n,h2⟩:=map_cons ht;obtain⟨u,r,rfl,M,h4⟩:=map_cons h2;obtain⟨A,B,rfl,h5,h6⟩:=dZ h4;obtain⟨w,r,rfl,O,h8⟩:=map_cons h6;obtain⟨q,r,rfl,o,H⟩:=map_cons h8;obtain⟨B,C,rfl,I,J⟩:=dZ H;obtain⟨z,rfl,i⟩:=jv J;have⟨n,G⟩:=qw n;have⟨M,N⟩:=ff M;have⟨O,R⟩:=ff O;have⟨o,l⟩:=ff o;have⟨i,k⟩:=ff i
 have he:t::u::(A++w::q::(B++[z]))++rest=t::u::(A++w::(q::(B++z::rest))):=by simp
 have W:=tJ (rest:=B++z::rest) o l;have hx:=ZC (e:=e) (d:=d+1) (rest:=q::(B++z::rest)) F.1 F.2.1 n G M N h5 O R W zfm;have hv:=ve (e:=e) (d:=d+1) (rest:=rest) F.2.2 I o l i k zfm;rw[he,S.fit]
 have ED:¬(t.aj=2/\aH (t::u::(A++w::(q::(B++z::rest)))) 1=[61]):=fun h=>by
  simp_all[aH,List.getElem?_cons_succ,getElem?_cons_zero,dL,if_true]
 have c:∀s:ai,s≠[]->aH (t::u::(A++w::(q::(B++z::rest)))) 0≠s:=fun s hs=>jQ n hs
 refine qj fun hd=>?_
 cases m:qu (.at_ s a) (d+1)with
 |false =>
  refine⟨fun T=>(by cases T),fun _=>?_⟩;have⟨j,k1⟩:=hx.2 m;refine⟨j,sc fun f=>?_⟩;refine zck ?_
  grind[simple]
 |true =>
  have⟨x,⟨_,k1,k2,k3,y,k4,k5⟩,k6⟩:=hx.1 m;refine⟨fun T=>?_,fun T=>?_⟩
  ·have⟨v,k7,k8⟩:=hv.1 zfk;refine⟨one 8 t.at_ s [y,v],by show er _=_;rw[eY,bp,bp,k5,k7,S.tree];rfl,sc fun f=>?_⟩;refine zck ?_;simp only[simple];grind
  ·have⟨j,k7⟩:=hv.2 zfk;refine⟨j,sc fun f=>?_⟩;refine zck ?_
   grind[simple]
end
section
variable{e:Int}{d:Nat}{ts rest:List Tok}{Q:T->Prop}{b:Bool}
theorem S.head{s:S}(T:s.ok=true)(H:ts.map kf=s.tk):∃t r,ts=t::r/\∀rest,aH (t::rest) 0≠iz/\aH (t::rest) 0≠[125]:=by
 cases s with
 |set s a =>
  exact zcl
 |put s a b =>
  exact zcl
 |if1 c b =>
  exact zau
 |if2 c b W =>
  exact zau
 |while_ c b =>
  exact zau
 |ret a =>
  exact zau
 |var s a =>
  exact zau
 |do_ a =>
  simp only[S.ok]at T;have⟨J,r0,v,u⟩:=E.head a T;rw[S.tk,v]at H;obtain⟨t,r,rfl,z,_⟩:=map_cons H;refine⟨t,r,rfl,fun rest=>?_⟩
  rcases zq (r:=rest) (by rw[z];exact u)with h|h|h|h|h<;>(rw[h];decide)
def rq(l:List S):Prop:=∀(e:Int)(d:Nat)(q:List T)(ts rest:List Tok)(u:Tok),S.dv l=true->ts.map kf=S.nJ l->u.aj=3->u.s=[125] ->
 (S.fits l d=true->∃I,bp I=S.aJ l/\Eb e d q (ts++u::rest) (.ok (q++I,rest)))/\(S.fits l d=false->∃r,Eb e d q (ts++u::rest) (.error (9,r)))
theorem Ln:rq []:=by
 intro e d q ts rest u _ H c W
 have:ts=[]:=by simp_all[S.nJ]
 subst this;refine⟨fun _=>⟨[],rfl,1,fun f s=>?_⟩,fun h=>by simp[S.fits]at h⟩;obtain⟨f,rfl⟩:∃g,f=g+1:=⟨f-1,by omega⟩;rw[rs.body,ae (by exact tJ c W),gw];rfl
theorem JH{a:S}{l:List S}(F:ru a)(G:rq l):rq (a::l):=by
 intro e d n ts rest u j z C k;simp only[S.dv,a6]at j;rw[S.nJ]at z;obtain⟨A,B,rfl,s,I⟩:=dZ z;obtain⟨t,r,rfl,M⟩:=S.head j.1 s
 have q:aH (B++u::rest) 0≠iz:=by
  cases l with
  |nil =>
   have:B=[]:=by simp_all[S.nJ]
   subst this;rw[List.nil_append,tJ C k];decide
  |cons R l' =>
   simp only[S.dv,a6]at j
   grind[S.nJ,dZ,S.head]
 have hx:=F e d (t::r) (B++u::rest) j.1 s q
 have J:t::r++B++u::rest=t::r++(B++u::rest):=by simp
 have T:aH (t::r++(B++u::rest)) 0≠[125]:=(M _).2;rw[J,S.fits]
 cases i:a.fit d with
 |false =>
  refine⟨fun o=>(by simp at o),fun _=>?_⟩;have⟨c,m,H⟩:=hx.2 i;refine⟨c,m+1,fun f v=>?_⟩;obtain⟨f,rfl⟩:∃g,f=g+1:=⟨f-1,by omega⟩
  grind[rs.body]
 |true =>
  have⟨E,W,m,H⟩:=hx.1 i;have w:=G e d (n++[E]) B rest u j.2 I C k;refine⟨fun o=>?_,fun o=>?_⟩
  ·have⟨O,N,dV,k4⟩:=w.1 zfk;refine⟨E::O,by grind[bp,S.aJ],m+dV+1,fun f v=>?_⟩;obtain⟨f,rfl⟩:∃g,f=g+1:=⟨f-1,by omega⟩
   grind[rs.body]
  ·have⟨c,dV,N⟩:=w.2 zfk;refine⟨c,m+dV+1,fun f v=>?_⟩;obtain⟨f,rfl⟩:∃g,f=g+1:=⟨f-1,by omega⟩
   grind[rs.body]
theorem rq.blk{l:List S}(C:rq l){A:List Tok}{u w:Tok}(T:S.dv l=true)(H:A.map kf=S.nJ l)(c:u.aj=3)(W:u.s=[123])(i:w.aj=3)(z:w.s=[125]) :
  Sx e (.block d) (u::(A++w::rest)) rest (fun t=>er t=.mk ⟨14,0,0,[],[]⟩ (S.aJ l)) (decide (d<=60)&&S.fits l (d+1)):=by
 have r:=C e (d+1) [] A rest w T H i z
 by_cases n:d<=60
 ·have:(decide (d<=60)&&S.fits l (d+1))=S.fits l (d+1):=by simp[n]
  rw[this];refine⟨fun h=>?_,fun h=>?_⟩
  ·have⟨I,E,k,M⟩:=r.1 h;refine⟨one 14 u.at_ [] I,by grind[eY],k+1,fun f B=>?_⟩;obtain⟨f,rfl⟩:∃g,f=g+1:=⟨f-1,by omega⟩;rw[rs,ab aK,qX c W];simp only;rw[M f aK];rfl
  ·have⟨v,k,M⟩:=r.2 h;refine⟨v,k+1,fun f B=>?_⟩;obtain⟨f,rfl⟩:∃g,f=g+1:=⟨f-1,by omega⟩;rw[rs,ab aK,qX c W];grind
 ·have:(decide (d<=60)&&S.fits l (d+1))=false:=by simp[n]
  exact zdC
theorem w7{j:sV}{x:Rd T}{R:List Tok}{C:sV}{k:Rd T}(h:Es e j ts x)(o:∀f,rs e f j ts=x->rs e (f+1) C R=k):Es e C R k:=by
 have⟨l,M⟩:=h;refine⟨l+1,fun f s=>?_⟩;obtain⟨f,rfl⟩:∃g,f=g+1:=⟨f-1,by omega⟩
 grind
theorem Hx{j k:sV}{x N:Rd T}{R S:List Tok}{C:sV}{l:Rd T}(h:Es e j ts x)(v:Es e k S N)(o:∀f,rs e f j ts=x->rs e f k S=N->rs e (f+1) C R=l):Es e C R l:=by
 have⟨m,M⟩:=h;have⟨dV,z⟩:=v;refine⟨m+dV+1,fun f s=>?_⟩;obtain⟨f,rfl⟩:∃g,f=g+1:=⟨f-1,by omega⟩
 grind
theorem OW(c:E){l:List S}(C:rq l):ru (.if1 c l):=by
 intro e d ts rest T ht R;simp only[S.ok,a6]at T;rw[S.tk]at ht;obtain⟨v,r,rfl,s,h2⟩:=map_cons ht;obtain⟨u,r,rfl,H,h4⟩:=map_cons h2;obtain⟨A,r,rfl,h5,h6⟩:=dZ h4;obtain⟨w,r,rfl,J,h8⟩:=map_cons h6;obtain⟨x,r,rfl,N,z⟩:=map_cons h8;obtain⟨B,r,rfl,F,G⟩:=dZ z;obtain⟨y,rfl,i⟩:=jv G;have⟨s,t⟩:=ff s;have⟨H,I⟩:=ff H;have⟨J,M⟩:=ff J;have⟨N,O⟩:=ff N;have⟨i,m⟩:=ff i
 have he:v::u::(A++w::x::(B++[y]))++rest=v::u::(A++w::(x::(B++y::rest))):=by simp
 have hi:=ve (e:=e) (d:=d+1) (rest:=x::(B++y::rest)) T.1 h5 H I J M zfm;have o:=C.blk (e:=e) (d:=d+1) (rest:=rest) T.2 F N O i m;have j:=tJ (rest:=u::(A++w::(x::(B++y::rest)))) s t;rw[he,S.fit]
 refine qj fun hd=>?_
 cases n:qu c (d+1)with
 |false =>
  refine⟨fun o=>(by simp at o),fun _=>?_⟩;have⟨k,W⟩:=hi.2 n;refine⟨k,sc fun f=>?_⟩;refine zdx ?_;rw[ab zfF,ae (.inl j),tail_cons,W]
 |true =>
  have⟨tc,W,k2⟩:=hi.1 n;rw[Bool.true_and];refine⟨fun h=>?_,fun h=>?_⟩
  ·have⟨tb,q,k4⟩:=o.1 h;refine⟨one 9 v.at_ [] [tc,tb],by show er _=_;rw[eY,bp,bp,W,q,S.tree];rfl,w7 k4 fun f k4=>?_⟩;refine za4 ?_;simp only;rw[k4];simp only;rw[ae j,ab R];rfl
  ·have⟨k,q⟩:=o.2 h;refine⟨k,w7 q fun f q=>?_⟩;refine za4 ?_;grind
theorem JJ(c:E){l:List S}(C:rq l):ru (.while_ c l):=by
 intro e d ts rest R ht rN;simp only[S.ok,a6]at R;rw[S.tk]at ht;obtain⟨v,r,rfl,s,h2⟩:=map_cons ht;obtain⟨u,r,rfl,H,h4⟩:=map_cons h2;obtain⟨A,r,rfl,h5,h6⟩:=dZ h4;obtain⟨w,r,rfl,J,h8⟩:=map_cons h6;obtain⟨x,r,rfl,N,z⟩:=map_cons h8;obtain⟨B,r,rfl,F,G⟩:=dZ z;obtain⟨y,rfl,i⟩:=jv G;have⟨s,t⟩:=ff s;have⟨H,I⟩:=ff H;have⟨J,M⟩:=ff J;have⟨N,O⟩:=ff N;have⟨i,m⟩:=ff i
 have he:v::u::(A++w::x::(B++[y]))++rest=v::u::(A++w::(x::(B++y::rest))):=by simp
 have hi:=ve (e:=e) (d:=d+1) (rest:=x::(B++y::rest)) R.1 h5 H I J M zfm;have o:=C.blk (e:=e) (d:=d+1) (rest:=rest) R.2 F N O i m;have j:=tJ (rest:=u::(A++w::(x::(B++y::rest)))) s t;rw[he,S.fit]
 refine qj fun hd=>?_
 cases n:qu c (d+1)with
 |false =>
  refine⟨fun o=>(by simp at o),fun _=>?_⟩;have⟨k,T⟩:=hi.2 n;refine⟨k,sc fun f=>?_⟩;refine zdx ?_;rw[ab zfF,ae (.inr j),tail_cons,T]
 |true =>
  have⟨tc,T,k2⟩:=hi.1 n;rw[Bool.true_and];refine⟨fun h=>?_,fun h=>?_⟩
  ·have⟨tb,q,W⟩:=o.1 h;refine⟨one 10 v.at_ [] [tc,tb],by show er _=_;rw[eY,bp,bp,T,q,S.tree];rfl,w7 W fun f W=>?_⟩;refine zdx ?_;rw[ab zfF,ae (.inr j),tail_cons,k2];simp only;rw[W];simp only;rw[ab zfF];rfl
  ·have⟨k,q⟩:=o.2 h;refine⟨k,w7 q fun f q=>?_⟩;refine zdx ?_;rw[ab zfF,ae (.inr j),tail_cons,k2];grind
theorem OX(c:E){l l2:List S}(C:rq l)(C2:rq l2):ru (.if2 c l l2):=by
 intro e d ts rest T ht rN;simp only[S.ok,a6]at T;rw[S.tk]at ht;obtain⟨v,r,rfl,h1,h2⟩:=map_cons ht;obtain⟨u,r,rfl,h3,h4⟩:=map_cons h2;obtain⟨A,r,rfl,h5,h6⟩:=dZ h4;obtain⟨w,r,rfl,h7,h8⟩:=map_cons h6;obtain⟨x,r,rfl,h9,YF⟩:=map_cons h8;obtain⟨B,r,rfl,h11,h12⟩:=dZ YF;obtain⟨y,r,rfl,k,h14⟩:=map_cons h12;obtain⟨z,r,rfl,m,h16⟩:=map_cons h14;obtain⟨t,r,rfl,n,h18⟩:=map_cons h16;obtain⟨q,r,rfl,h19,h20⟩:=dZ h18;obtain⟨F,rfl,o⟩:=jv h20;have⟨h1,h1'⟩:=ff h1;have⟨h3,YJ⟩:=ff h3;have⟨h7,h7'⟩:=ff h7;have⟨h9,h9'⟩:=ff h9;have⟨k,G⟩:=ff k;have⟨m,H⟩:=ff m;have⟨n,I⟩:=ff n;have⟨o,J⟩:=ff o
 have he:v::u::(A++w::x::(B++y::z::t::(q++[F])))++rest=v::u::(A++w::(x::(B++y::(z::(t::(q++F::rest)))))):=by simp
 have hi:=ve (e:=e) (d:=d+1) (rest:=x::(B++y::(z::(t::(q++F::rest))))) T.1 h5 h3 YJ h7 h7' zfm;have s:=C.blk (e:=e) (d:=d+1) (rest:=z::(t::(q++F::rest))) T.2.1 h11 h9 h9' k G;have M:=C2.blk (e:=e) (d:=d+1) (rest:=rest) T.2.2 h19 n I o J;have j:=tJ (rest:=u::(A++w::(x::(B++y::(z::(t::(q++F::rest))))))) h1 h1';have hz:=tJ (rest:=t::(q++F::rest)) m H;rw[he,S.fit]
 refine qj fun hd=>?_
 cases N:qu c (d+1)with
 |false =>
  refine⟨fun s=>(by simp at s),fun _=>?_⟩;have⟨i,k1⟩:=hi.2 N;refine⟨i,sc fun f=>?_⟩;refine zdx ?_;rw[ab zfF,ae (.inl j),tail_cons,k1]
 |true =>
  have⟨tc,k1,k2⟩:=hi.1 N;rw[Bool.true_and]
  cases O:(decide (d+1<=60)&&S.fits l (d+2))with
  |false =>
   refine⟨fun s=>(by simp at s),fun _=>?_⟩;have⟨i,W⟩:=s.2 O;refine⟨i,w7 W fun f W=>?_⟩;refine za4 ?_;grind
  |true =>
   have⟨tb,W,R⟩:=s.1 O;rw[Bool.true_and];refine⟨fun h=>?_,fun h=>?_⟩
   ·have⟨tb2,k5,k6⟩:=M.1 h;refine⟨one 9 v.at_ [] [tc,tb,tb2],by show er _=_;rw[eY,bp,bp,bp,k1,W,k5,S.tree];rfl,Hx R k6 fun f R k6=>?_⟩;refine za4 ?_;simp only;rw[R];simp only;rw[ae j,ae hz,tail_cons,k6];rfl
   ·have⟨i,k5⟩:=M.2 h;refine⟨i,Hx R k5 fun f R k5=>?_⟩;refine za4 ?_;grind
end
mutual
def coreS:∀(s:S),ru s
 |.set s a=>O1 s a
 |.put s a b=>OZ s a b
 |.if1 c b=>OW c (xY b)
 |.if2 c b T=>OX c (xY b) (xY T)
 |.while_ c b=>JJ c (xY b)
 |.ret a=>O0 a
 |.do_ a=>Sl a
 |.var s a=>O3 s a
def xY:∀(l:List S),rq l
 |[]=>Ln
 |a::l=>JH (coreS a) (xY l)
end
def Jy(l:List S):List K:=kS [123]::(S.nJ l++[kS [125]])
def cx(l:List S):T:=.mk ⟨14,0,0,[],[]⟩ (S.aJ l)
def gh(l:List S)(d:Nat):Bool:=decide (d<=60)&&S.fits l (d+1)
def Yq(e:Int):∀f,(∀j ts,rs e f j ts=.error bC\/rs e (f+1) j ts=rs e f j ts)/\(∀d q ts,rs.body e f d q ts=.error bC\/rs.body e (f+1) d q ts=rs.body e f d q ts):=by
 intro f
 induction f with
 |zero=>exact⟨fun j ts=>.inl zf3,fun d q ts=>.inl zfQ⟩
 |succ f r =>
  have⟨l,C⟩:=r;refine⟨fun j ts=>?_,fun d q ts=>?_⟩
  ·cases j with
   |block d =>
    grind[rs]
   |stmt d =>
    rw[rs,rs];split
    ·simp
    ·simp only;split
     ·simp
     ·split
      ·cases inner e (d+1) [40] [41] ts.tail with
       |error x=>simp
       |ok y =>
        grind
      simp
  grind[rs.body]
def TD{e:Int}{f H:Nat}{j:sV}{ts:List Tok}(h:rs e f j ts≠.error bC)(hf:f<=H):rs e H j ts=rs e f j ts:=by
 obtain⟨k,rfl⟩:=Nat.exists_eq_add_of_le hf;clear hf
 induction k with
 |zero=>rfl
 |succ k q =>
  rcases(Yq e (f+k)).1 j ts with z|z
  ·grind
  grind
def DX{l:List S}{e:Int}{d:Nat}{ts rest:List Tok}(m:S.dv l=true)(H:ts.map kf=Jy l) :
  (gh l d=true->∃t,er t=cx l/\block e d (ts++rest)=.ok (t,rest))/\(gh l d=false->∃s,block e d (ts++rest)=.error (9,s)):=by
 obtain⟨u,r,rfl,z,G⟩:=map_cons H;obtain⟨A,r,rfl,I,i⟩:=dZ G;obtain⟨w,rfl,F⟩:=jv i;have⟨z,W⟩:=ff z;have⟨F,v⟩:=ff F;have C:=(xY l).blk (e:=e) (d:=d) (rest:=rest) m I z W F v
 have j:u::(A++[w])++rest=u::(A++w::rest):=by simp
 rw[j]
 have c:∀{x:Rd T},Es e (.block d) (u::(A++w::rest)) x->block e d (u::(A++w::rest))=x:=by
  rintro x⟨k,M⟩;have B:rs e (nG (u::(A++w::rest))) (.block d) (u::(A++w::rest))≠.error bC:=vN;have:=TD B (Nat.le_add_left _ k)
  grind[block]
 exact⟨fun h=>by have⟨t,E,n⟩:=C.1 h;exact⟨t,E,c n⟩,fun h=>by have⟨s,E⟩:=C.2 h;grind⟩
open Go.Sp (dU dB cL own nH b0)
def bo(n:Int):Int:=if n%4294967296>2147483647 then n%4294967296-4294967296 else n%4294967296
def gQ(n:Nat):ai:=if h:n<10 then[UInt8.ofNat (48+n)]else gQ (n / 10)++[UInt8.ofNat (48+n%10)]
termination_by n
decreasing_by omega
def D5(n:Nat):(gQ n).length<=n+1:=by
 induction n using Nat.strongRecOn with
 |_ n q =>
 grind[gQ]
def cJ:List ai->ai
 |[]=>[]
 |x::r=>x++r.flatMap fun y=>44::32::y
def AF{l:List ai}(h:l≠[])(x:ai):cJ (l++[x])=(cJ l++[44,32])++x:=by
 cases l with
 |nil=>grind
 |cons a l=>simp[ai,cJ]
def wa(l:List ai)(k:Nat):(cJ (l.take k)).length<=(cJ l).length:=by
 cases l with
 |nil=>simp
 |cons a l =>
  cases k with
  |zero=>simp[cJ]
  |succ k =>
   simp only[List.take_succ_cons,cJ,bl]
   have:∀(l:List ai)(k:Nat),((l.take k).flatMap fun y=>(44:UInt8)::32::y).length<=(l.flatMap fun y=>(44:UInt8)::32::y).length:=by
    intro l
    induction l with
    |nil=>simp
    |cons b l q=>intro k;cases k with
     |zero=>simp
     |succ k=>grind
   grind
def qL(lv k:Nat)(x:ai):ai:=if lv<k then(40::x)++[41]else x
mutual
def E.bT:E->ai
 |.num n=>gQ n.toNat
 |.name s=>s
 |.at_ s a=>((s++[91])++a.bT)++[93]
 |.call s l=>((s++[40])++cJ (E.dX l))++[41]
 |.un s a=>(s++[32])++qL a.lv 9 a.bT
 |.bin s a b=>(((qL a.lv (fg s) a.bT++[32])++s)++[32])++qL b.lv (fg s+1) b.bT
def E.dX:List E->List ai
 |[]=>[]
 |a::l=>a.bT::E.dX l
end
mutual
def E.full:E->ai
 |.num n=>gQ n.toNat
 |.name s=>s
 |.at_ s a=>((s++[91])++a.full)++[93]
 |.call s l=>((s++[40])++cJ (E.ue l))++[41]
 |.un s a=>((40::s)++a.full)++[41]
 |.bin s a b=>(((((40::a.full)++[32])++s)++[32])++b.full)++[41]
def E.ue:List E->List ai
 |[]=>[]
 |a::l=>a.full::E.ue l
end
def E.Qn(l:List E):E.dX l=l.map E.bT:=by
 induction l with
 |nil=>rfl
 |cons a l q=>grind[dX]
def E.LX(l:List E):E.ue l=l.map E.full:=by
 induction l with
 |nil=>rfl
 |cons a l q=>grind[ue]
def E.out(W:Bool)(a:E):ai:=if W then a.bT else a.full
mutual
def S.bT(x:E->ai):S->ai
 |.set s a=>((s++[32,61,32])++x a)++[59]
 |.put s a b=>((((s++[91])++x a)++[93,32,61,32])++x b)++[59]
 |.if1 c b=>(([105,102,32,40]++x c)++[41,32])++(S.dX x [123,32] b++[125])
 |.if2 c b T=>(((([105,102,32,40]++x c)++[41,32])++(S.dX x [123,32] b++[125]))++[32,101,108,115,101,32])++(S.dX x [123,32] T++[125])
 |.while_ c b=>(([119,104,105,108,101,32,40]++x c)++[41,32])++(S.dX x [123,32] b++[125])
 |.ret a=>([114,101,116,117,114,110,32]++x a)++[59]
 |.do_ a=>x a++[59]
 |.var s a=>((([118,97,114,32]++s)++[32,61,32])++x a)++[59]
def S.dX(x:E->ai):ai->List S->ai
 |acc,[]=>acc
 |acc,a::l=>S.dX x ((acc++a.bT x)++[32]) l
end
def iy(x:E->ai)(l:List S):ai:=S.dX x [123,32] l++[125]
def G0(n:Nd)(l:List T):dU (.mk n l)=(dB l&&cL (.mk n l)):=by rw[dU]
theorem tX{l:List T}(h:dB l=true){t:T}(H:t∈l):dU t=true:=by
 induction l with
 |nil=>cases H
 |cons a l q =>
  grind[dB]
theorem pD(n:Nd)(l:List T):er (.mk n l)=.mk ⟨n.aj,0,n.n,n.s,[]⟩ (bp l):=by rw[er]
def jI{l:List T}{m i:Nat}(h:b0 m i l=true):∀(j:Nat)t,l[j]?=some t->(if i+j<m then nH t.n.aj else t.n.aj==14)=true:=by
 induction l generalizing i with
 |nil=>simp
 |cons a l q =>
  grind[b0]
def Ef:∀(l:List T),(∀t∈l,∃a:E,a.ok=true/\er t=a.tree)->∃J:List E,E.dv J=true/\bp l=E.aJ J
 |[],_=>⟨[],rfl,rfl⟩
 |t::l,h=>by
  have⟨a,z,v⟩:=h t (mem_cons_self);obtain⟨J,I,c⟩:=Ef l (fun t H=>h t (ey _ H));exact⟨a::J,by grind[E.dv],by grind[bp,E.aJ]⟩
def toE:∀(M:Nat)(t:T),sizeOf t<=M->dU t=true->nH t.n.aj=true->∃a:E,a.ok=true/\er t=a.tree:=by
 intro M
 induction M with
 |zero=>intro t h;cases t;simp at h
 |succ M r =>
  intro t Q O G;have⟨n,l⟩:=t;rw[G0,a6]at O;have⟨O,S⟩:=O
  have w:∀t∈l,nH t.n.aj=true->∃a:E,a.ok=true/\er t=a.tree:=fun t H G=>by
   have:=List.sizeOf_lt_of_mem H
   grind[tX]
  have⟨k,at_,v,s,C⟩:=n
  have G:(1:Int)<=k/\k<=6:=by
   simp only[nH,T.n,a6]at G
   grind
  simp only[cL,own,T.n,T.au]at S
  obtain rfl|rfl|rfl|rfl|rfl|rfl:k=1\/k=2\/k=3\/k=4\/k=5\/k=6:=by omega
  ·simp at S;have⟨A,z,I,c,F⟩:=S;subst c F;exact⟨.num v,by grind[E.ok],by rfl⟩
  ·simp at S;have⟨A,z,I,c⟩:=S;subst z c;exact⟨.name s,by simp[E.ok,I],by rfl⟩
  ·simp at S;have⟨A,z,I,c,F⟩:=S;subst z
   match l,c with
   |[t],_ =>
    have m:=jI F 0 t rfl;have⟨a,J,W⟩:=w t zfm zfk;exact⟨.at_ s a,by grind[E.ok],by rw[pD,E.tree,bp,W];rfl⟩
  ·simp at S;have⟨A,z,I,F⟩:=S;subst z
   obtain⟨N,J,W⟩:=Ef l fun t H=>w t H (by
    have⟨j,o⟩:=List.mem_iff_getElem?.1 H;have i:=(bG o).1;have:=jI F j t o
    grind)
   exact⟨.call s N,by grind[E.ok],by rw[pD,E.tree,W]⟩
  ·simp at S;have⟨A,z,I,c,F⟩:=S;subst z
   match l,c with
   |[t],_ =>
    have m:=jI F 0 t rfl;have⟨a,J,W⟩:=w t zfm zfk;exact⟨.un s a,by grind[E.ok],by rw[pD,E.tree,bp,W];rfl⟩
  ·simp at S;have⟨A,z,I,c,F⟩:=S;subst z
   match l,c with
   |[t,u],_ =>
    have m:=jI F 0 t rfl;have q:=jI F 1 u rfl;have⟨a,J,W⟩:=w t zfm zfk;have⟨b,R,B⟩:=w u zfm zfk;exact⟨.bin s a b,by grind[E.ok],by grind[pD,bp,er,E.tree]⟩
open Go.Sp (jl)
def FD:∀(l:List T),(∀t∈l,∃a:S,a.ok=true/\er t=a.tree)->∃J:List S,S.dv J=true/\bp l=S.aJ J
 |[],_=>⟨[],rfl,rfl⟩
 |t::l,h=>by
  have⟨a,z,v⟩:=h t (mem_cons_self);obtain⟨J,I,c⟩:=FD l (fun t H=>h t (ey _ H));exact⟨a::J,by grind[S.dv],by grind[bp,S.aJ]⟩
def toS:∀(M:Nat)(t:T),sizeOf t<=M->dU t=true->(jl t.n.aj=true->∃a:S,a.ok=true/\er t=a.tree)/\(t.n.aj=14->∃l:List S,S.dv l=true/\er t=cx l):=by
 intro M
 induction M with
 |zero=>intro t h;cases t;simp at h
 |succ M r =>
  intro t R O;have⟨n,l⟩:=t;rw[G0,a6]at O;have⟨O,W⟩:=O
  have m:∀t∈l,nH t.n.aj=true->∃a:E,a.ok=true/\er t=a.tree:=fun t J G=>toE _ t (a8 _) (tX O J) G
  have i:∀t∈l,t.n.aj=14->∃l:List S,S.dv l=true/\er t=cx l:=fun t J G=>by
   have:=List.sizeOf_lt_of_mem J
   grind[tX]
  have o:∀t∈l,jl t.n.aj=true->∃a:S,a.ok=true/\er t=a.tree:=fun t J G=>by
   have:=List.sizeOf_lt_of_mem J
   grind[tX]
  have⟨k,at_,v,s,C⟩:=n;simp only[cL,own,T.n,T.au]at W;refine⟨fun G=>?_,fun G=>?_⟩
  ·have G:(7:Int)<=k/\k<=13:=by
    simp only[jl,T.n,a6]at G
    grind
   obtain rfl|rfl|rfl|rfl|rfl|rfl|rfl:k=7\/k=8\/k=9\/k=10\/k=11\/k=12\/k=13:=by omega
   ·simp at W;have⟨A,z,I,d,F⟩:=W;subst z
    match l,d with
    |[t],_ =>
     have⟨a,H,e⟩:=m t zfm zfr;exact⟨.set s a,by grind[S.ok],by rw[pD,S.tree,bp,e];rfl⟩
   ·simp at W;have⟨A,z,I,d,F⟩:=W;subst z
    match l,d with
    |[t,u],_ =>
     have⟨a,H,e⟩:=m t zfm zfr;have⟨b,Q,B⟩:=m u zfm zfE;exact⟨.put s a b,by grind[S.ok],by grind[pD,bp,er,S.tree]⟩
   ·simp at W;have⟨A,z,I,d,F⟩:=W;subst z I
    rcases d with d|d
    ·match l,d with
     |[t,u],_ =>
      have⟨a,H,e⟩:=m t zfm zfr;have⟨b,Q,B⟩:=i u zfm zfE;exact⟨.if1 a b,by grind[S.ok],by rw[pD,S.tree,bp,bp,e,B];rfl⟩
    ·match l,d with
     |[t,u,w],_ =>
      have⟨a,H,e⟩:=m t zfm zfr;have⟨b,Q,B⟩:=i u zfm zfE;obtain⟨c,N,j⟩:=i w zfm (by simpa using jI F 2 w rfl);exact⟨.if2 a b c,by grind[S.ok],by rw[pD,S.tree,bp,bp,bp,e,B,j];rfl⟩
   ·simp at W;have⟨A,z,I,d,F⟩:=W;subst z I
    match l,d with
    |[t,u],_ =>
     have⟨a,H,e⟩:=m t zfm zfr;have⟨b,Q,B⟩:=i u zfm zfE;exact⟨.while_ a b,by grind[S.ok],by rw[pD,S.tree,bp,bp,e,B];rfl⟩
   ·simp at W;have⟨A,z,I,d,F⟩:=W;subst z I
    match l,d with
    |[t],_ =>
     have⟨a,H,e⟩:=m t zfm zfr;exact⟨.ret a,by simp[S.ok,H],by rw[pD,S.tree,bp,e];rfl⟩
   ·simp at W;have⟨A,z,I,d,F⟩:=W;subst z I
    match l,d with
    |[t],_ =>
     have⟨a,H,e⟩:=m t zfm zfr;exact⟨.do_ a,by simp[S.ok,H],by rw[pD,S.tree,bp,e];rfl⟩
   ·simp at W;have⟨A,z,I,d,F⟩:=W;subst z
    match l,d with
    |[t],_ =>
     have⟨a,H,e⟩:=m t zfm zfr;exact⟨.var s a,by grind[S.ok],by rw[pD,S.tree,bp,e];rfl⟩
  ·simp only[T.n]at G;subst G;simp at W;have⟨A,z,I,d⟩:=W;subst z d
   obtain⟨q,F,H⟩:=FD l fun t J=>o t J (I t J)
   grind[S.dv,er,cx]
def toB{t:T}(h:dU t=true)(G:t.n.aj=14):∃l:List S,S.dv l=true/\er t=cx l:=(toS _ t (a8 _) h).2 G
mutual
def wt:T->Nat
 |.mk n l=>30+n.s.length+gq l
def gq:List T->Nat
 |[]=>0
 |t::l=>wt t+gq l
end
mutual
theorem RX:∀t:T,wt (er t)=wt t
 |.mk n l=>by rw[er,wt,wt,Jb l]
theorem Jb:∀l:List T,gq (bp l)=gq l
 |[]=>rfl
 |t::l=>by rw[bp,gq,gq,RX t,Jb l]
end
def Hj:∀(k n:Nat),n<10^(k+1)->(gQ n).length<=k+1:=by
 intro k
 induction k with
 |zero=>grind[gQ]
 |succ k q =>
  grind[gQ]
def sG(lv k:Nat)(x:ai):(qL lv k x).length<=x.length+2:=by grind[qL]
mutual
theorem E.len:∀a:E,a.ok=true->a.bT.length+4<=wt a.tree/\a.full.length+4<=wt a.tree
 |.num n,h=>by
  simp only[E.ok,a6]at h;have z:=pN h.1;have v:=pN h.2;have:=Hj 9 n.toNat aK
  grind[bT,wt,tree,full]
 |.name s,h=>by grind[bT,wt,tree,full]
 |.at_ s a,h=>by
  simp only[E.ok,a6]at h;have:=E.len a h.2;exact zb4
 |.call s l,h=>by
  simp only[E.ok,a6]at h;have:=E.lens l h.2
  grind[bT,wt,tree,full]
 |.un s a,h=>by
  simp only[E.ok,a6]at h;have:=E.len a h.2;have:=sG a.lv 9 a.bT;exact zb4
 |.bin s a b,h=>by
  simp only[E.ok,a6]at h;have:=E.len a h.1.2;have:=E.len b h.2;have:=sG a.lv (fg s) a.bT;have:=sG b.lv (fg s+1) b.bT;exact zb4
theorem E.lens:∀l:List E,E.dv l=true->(cJ (E.dX l)).length<=gq (E.aJ l)/\(cJ (E.ue l)).length<=gq (E.aJ l)
 |[],_=>⟨bj _,bj _⟩
 |a::l,h=>by
  simp only[E.dv,a6]at h;have z:=E.len a h.1;have v:=E.lens l h.2;rw[E.dX,E.ue,E.aJ,gq]
  have c:∀(x:ai)(l:List ai),(cJ (x::l)).length<=x.length+2+(cJ l).length:=by
   intro x l
   cases l with
   |nil=>simp[cJ]
   |cons y l=>grind[cJ]
  grind
end
mutual
theorem S.len(x:E->ai)(hx:∀a:E,a.ok=true->(x a).length+4<=wt a.tree):∀s:S,s.ok=true->(s.bT x).length+4<=wt s.tree
 |.set s a,h=>by
  simp only[S.ok,a6]at h
  exact zaF
 |.put s a b,h=>by
  simp only[S.ok,a6]at h
  exact zaF
 |.if1 c b,h=>by
  simp only[S.ok,a6]at h;have:=hx c h.1;have:=S.lens x hx b h.2 [123,32]
  exact zaF
 |.if2 c b T,h=>by
  simp only[S.ok,a6]at h;have:=hx c h.1;have:=S.lens x hx b h.2.1 [123,32];have:=S.lens x hx T h.2.2 [123,32];rw[S.bT,S.tree,wt];simp only[gq,wt,bl,length_cons,length_nil]at *;omega
 |.while_ c b,h=>by
  simp only[S.ok,a6]at h;have:=hx c h.1;have:=S.lens x hx b h.2 [123,32]
  exact zaF
 |.ret a,h=>by
  simp only[S.ok]at h
  exact zaF
 |.do_ a,h=>by
  simp only[S.ok]at h
  exact zaF
 |.var s a,h=>by
  simp only[S.ok,a6]at h
  exact zaF
theorem S.lens(x:E->ai)(hx:∀a:E,a.ok=true->(x a).length+4<=wt a.tree):∀l:List S,S.dv l=true->∀q:ai,(S.dX x q l).length<=q.length+gq (S.aJ l)
 |[],_,q=>by grind[dX]
 |a::l,h,q=>by
  simp only[S.dv,a6]at h;have z:=S.len x hx a h.1;have v:=S.lens x hx l h.2 ((q++a.bT x)++[32]);rw[S.dX,S.aJ,gq];simp only[bl,length_cons,length_nil]at v;omega
end
def sF(x:E->ai)(hx:∀a:E,a.ok=true->(x a).length+4<=wt a.tree){l:List S}(h:S.dv l=true):(iy x l).length<=wt (cx l):=by
 grind[S.lens,bl,length_cons,length_nil,iy,wt,cx]
end Go.Xp
namespace Go.Im
open Go.Xp Go.Sp
def qN(g:Nat->Option (T × Nat)):List Int->Nat->List T->Option (List T × Nat)
 |[],next,q=>some (q,next)
 |k::r,next,q=>if k=(next:Int)then match g next with
  |none=>none
  |some (t,e)=>qN g r e (q++[t])
  else none
def pA(ak:List Nd):Nat->Nat->Option (T × Nat)
 |0,_=>none
 |f+1,a=>match ak[a]? with
  |none=>none
  |some n=>match qN (pA ak f) n.au (a+1) []with
   |none=>none
   |some (l,e)=>if n.at_<0 then none else some (.mk n l,e)
def tr(ak:List Nd)(a:Nat):Option (T × Nat):=pA ak (ak.length+1) a
def FN{ak:List Nd}{g:Nat->Option (T × Nat)}(hg:∀a t e,g a=some (t,e)->a<e/\e<=ak.length/\e=a+bg t/\(ak.take e).drop a=jA a t) :
  ∀(ks:List Int)(next:Nat)(q l:List T)(e:Nat),next<=ak.length->qN g ks next q=some (l,e)->∃m,l=q++m/\e=next+aZ m/\e<=ak.length/\ks=bS next m/\(ak.take e).drop next=en next m
 |[],next,q,l,e,Q,h=>by
  grind[qN,ky,n2,iX,aZ,bS,en]
 |k::r,next,q,l,e,Q,h=>by
  rw[qN]at h;split at h
  ·rename_i G
   cases W:g next with
   |none=>grind
   |some x =>
    have⟨t,F⟩:=x;rw[W]at h;simp only at h;have⟨a1,H,s,n⟩:=hg _ _ _ W;have⟨m,i,b,R,o,c⟩:=FN hg r F (q++[t]) l e H h
    grind[aZ,bS,en]
  ·cases h
def zR{ak:List Nd}:∀(f a:Nat)(t:T)(e:Nat),pA ak f a=some (t,e)->a<e/\e<=ak.length/\e=a+bg t/\(ak.take e).drop a=jA a t
 |0,a,t,e,h=>by cases h
 |f+1,a,t,e,h=>by
  rw[pA]at h
  cases Q:ak[a]? with
  |none=>grind
  |some n =>
   rw[Q]at h;simp only at h;have i:=(bG Q).1
   cases G:qN (pA ak f) n.au (a+1) []with
   |none=>grind
   |some x =>
    have⟨l,F⟩:=x;rw[G]at h;simp only at h;split at h
    ·cases h
    ·cases h;have⟨o,j,W,R,m,c⟩:=FN (zR f) n.au (a+1) [] l e i G
     have:o=l:=by grind
     subst this;refine⟨by omega,R,by rw[bg];omega,?_⟩;rw[jA,<-m,<-c]
     have z:(ak.take e)[a]?=some n:=by grind
     have⟨v,I⟩:=bG z;rw[kP v,I]
def lb(ak:List Nd):List Fn->Nat->List T->Option (List T × Nat)
 |[],next,q=>some (q,next)
 |f::r,next,q=>match tr ak next with
  |none=>none
  |some (t,e)=>if f.body=(next:Int)then lb ak r e (q++[t])else none
def df(k:Int)(n:Nat):Bool :=
 if k=1\/k=2 then((n:Int)==0)
 else if k=4\/k=14 then true
 else if k=3\/k=5\/k=7\/k=11\/k=12\/k=13 then((n:Int)==1)
 else if k=6\/k=8\/k=10 then((n:Int)==2)
 else if k=9 then((n:Int)==2) ||((n:Int)==3)
 else false
mutual
def gJ:T->Bool
 |.mk n l=>df n.aj l.length&&xt l
def xt:List T->Bool
 |[]=>true
 |t::r=>gJ t&&xt r
end
def xr(t:T):gJ t=(df t.n.aj t.au.length&&xt t.au):=by cases t;rfl
def qV(l:List T):xt l=l.all gJ:=by
 induction l with
 |nil=>rfl
 |cons t l q=>grind[xt]
mutual
def ek(ak:List Nd):Nat->T->Prop
 |a,.mk n l=>ak[a]?=some n/\n.au=bS (a+1) l/\dS ak (a+1) l
def dS(ak:List Nd):Nat->List T->Prop
 |_,[]=>True
 |a,t::r=>ek ak a t/\dS ak (a+bg t) r
end
mutual
def wM:T->Prop
 |.mk n l=>0<=n.at_/\mg l
def mg:List T->Prop
 |[]=>True
 |t::r=>wM t/\mg r
end
theorem kY(t:T):1<=bg t:=by simp[fP]
mutual
theorem ek.le{ak:List Nd}:∀(t:T)(a:Nat),ek ak a t->a+bg t<=ak.length
 |.mk n l,a,h=>by
  rw[ek]at h;have z:=(bG h.1).1;have:=dS.le l (a+1) h.2.2 z;rw[bg];omega
theorem dS.le{ak:List Nd}:∀(l:List T)(a:Nat),dS ak a l->a<=ak.length->a+aZ l<=ak.length
 |[],a,h,O=>by grind[aZ]
 |t::r,a,h,O=>by
  rw[dS]at h;have z:=ek.le t a h.1;have:=dS.le r _ h.2 z;rw[aZ];omega
end
section
variable{ak:List Nd}
theorem Hr:∀(f:Nat),(∀(a d:Nat)(e:Int),pe ak f a d=some e->0<=e->∃t,ek ak a t/\e=((a+bg t:Nat):Int)) /\
  (∀(ks:List Int)(next d:Nat)(e:Int),pd ak f ks (next:Int) d=some e->0<=e->∃l,dS ak next l/\ks=bS next l/\e=((next+aZ l:Nat):Int)):=by
 intro f
 induction f with
 |zero =>
  refine⟨fun a d e h _=>by simp[pe]at h,fun ks next d e h _=>?_⟩
  cases ks with
  |nil=>rw[pd]at h;grind[dS,bS,aZ]
  |cons k r=>simp[pd]at h
 |succ f q =>
  refine⟨fun a d e h i=>?_,fun ks next d e h i=>?_⟩
  ·rw[pe]at h;split at h
   ·grind
   ·cases Q:ak[a]? with
    |none=>grind
    |some n =>
     rw[Q]at h;simp only at h;rw[show((a:Int)+1)=((a+1:Nat):Int) by omega]at h;have⟨l,z,v,I⟩:=q.2 _ _ _ _ h i;exact⟨.mk n l,by grind[ek],by grind[bg]⟩
  ·cases ks with
   |nil=>rw[pd]at h;grind[dS,bS,aZ]
   |cons k r =>
    rw[pd]at h;split at h
    ·rename_i G;subst G;rw[eV]at h
     cases T:pe ak f next (d+1)with
     |none=>grind
     |some F =>
      rw[T]at h;simp only at h;split at h
      ·grind
      ·rename_i M;have⟨t,z,v⟩:=q.1 _ _ _ T aK;subst v;have⟨l,I,c,H⟩:=q.2 _ _ _ _ h i;refine⟨t::l,by grind[dS],by grind[bS],by grind[aZ]⟩
    grind
theorem vF:∀(f:Nat),(∀(t:T)(a:Nat),ek ak a t->2*bg t<=f->sub ak f a=some t) /\
  (∀(l:List T)(a:Nat)(q:List T),dS ak a l->2*aZ l+1<=f->pj ak f (bS a l) q=some (q++l)):=by
 intro f
 induction f with
 |zero =>
  grind[kY]
 |succ f r =>
  refine⟨fun t a o h=>?_,fun l a q o h=>?_⟩
  ·have⟨n,l⟩:=t
   grind[ek,bg,sub]
  ·cases l with
   |nil=>rw[bS,pj];simp
   |cons t l =>
    rw[dS]at o;rw[aZ]at h;have:=kY t
    grind[pj,bS]
theorem WN:∀(f:Nat)(t:T)(a:Nat),ek ak a t->wM t->bg t<=f->pA ak f a=some (t,a+bg t):=by
 intro f
 induction f with
 |zero=>grind[kY]
 |succ f r =>
  intro t a o O h;have⟨n,l⟩:=t
  have c:∀(l:List T)(a:Nat)(q:List T),dS ak a l->mg l->aZ l<=f->qN (pA ak f) (bS a l) a q=some (q++l,a+aZ l):=by
   intro l
   induction l with
   |nil=>intro a q _ _ _;rw[bS,qN,aZ];simp
   |cons t l W =>
    intro a q o O h;rw[dS]at o;rw[mg]at O
    grind[qN,pA,bS,aZ]
  rw[ek]at o;rw[wM]at O
  grind[pA,bg]
theorem WC:∀(f:Nat)(t:T)(a e:Nat),pA ak f a=some (t,e)->ek ak a t/\e=a+bg t/\wM t:=by
 intro f
 induction f with
 |zero=>grind[pA]
 |succ f s =>
  intro t a e h
  have c:∀(w:List Int)(next:Nat)(q l:List T)(e:Nat),qN (pA ak f) w next q=some (l,e)->∃m,l=q++m/\dS ak next m/\w=bS next m/\e=next+aZ m/\mg m:=by
   intro w
   induction w with
   |nil=>intro next q l e h;rw[qN]at h;grind[dS,bS,aZ,mg]
   |cons k r W =>
    intro next q l e h
    grind[qN,pA,dS,bS,aZ,mg]
  grind[pA,qN,ek,bg,wM]
theorem SA(W:ak.length<=800):∀(f:Nat),(∀(t:T)(a d:Nat),ek ak a t->d<=a->2*bg t<=f->pe ak f a d=some ((a+bg t:Nat):Int)) /\
  (∀(l:List T)(a d:Nat),dS ak a l->d<a->2*aZ l+1<=f->pd ak f (bS a l) (a:Int) d=some ((a+aZ l:Nat):Int)):=by
 intro f
 induction f with
 |zero =>
  grind[kY]
 |succ f q =>
  refine⟨fun t a d o r h=>?_,fun l a d o r h=>?_⟩
  ·have⟨n,l⟩:=t;rw[ek]at o;rw[bg]at h |-;have i:=(bG o.1).1;rw[pe,ab aK,o.1];simp only;rw[show((a:Int)+1)=((a+1:Nat):Int) by omega,o.2.1,q.2 l (a+1) d o.2.2 aK aK]
   grind
  ·cases l with
   |nil=>rfl
   |cons t l =>
    rw[dS]at o;rw[aZ]at h |-;have:=kY t;rw[bS,pd,ae rfl,eV,q.1 t a (d+1) o.1 aK aK];simp only;rw[ab aK,q.2 l _ d o.2 aK aK]
    grind
theorem Ly:∀(f:Nat),(∀(a d:Nat),2*(ak.length-a)+1<=f->∃e,pe ak f a d=some e/\(0<=e->(a:Int)<e/\a<ak.length)) /\
  (∀(ks:List Int)(next d:Nat),2*(ak.length-next)+2<=f->∃e,pd ak f ks (next:Int) d=some e/\(0<=e->(next:Int)<=e)):=by
 intro f
 induction f with
 |zero=>simp
 |succ f q =>
  refine⟨fun a d h=>?_,fun ks next d h=>?_⟩
  ·rw[pe];split
   ·simp
   ·rename_i o
    cases Q:ak[a]? with
    |none=>grind
    |some n =>
     simp only;rw[show((a:Int)+1)=((a+1:Nat):Int) by omega];have⟨e,z,v⟩:=q.2 n.au (a+1) d aK
     grind
  ·cases ks with
   |nil=>simp[pd]
   |cons k r =>
    rw[pd];split
    ·rename_i G;subst G;rw[eV]
     have⟨e,z,v⟩:=q.1 next (d+1) aK
     rw[z];simp only;split
     ·simp
     ·rename_i M;have I:=v aK;obtain⟨m,rfl⟩:∃m:Nat,e=(m:Int):=⟨e.toNat,by omega⟩;have⟨i,c,F⟩:=q.2 r m d aK
      grind
    simp
end
def gE(Q:Fn->T->Prop):List Fn->Nat->List T->Prop
 |[],_,[]=>True
 |f::r,a,t::l=>f.body=(a:Int)/\Q f t/\gE Q r (a+bg t) l
 |_,_,_=>False
def gE.len{Q:Fn->T->Prop}:∀{az:List Fn}{a:Nat}{l:List T},gE Q az a l->az.length=l.length
 |[],_,[],_=>rfl
 |f::r,a,t::l,h=>by rw[gE]at h;rw[length_cons,length_cons,gE.len h.2.2]
 |[],_,t::l,h=>by cases h
 |f::r,_,[],h=>by cases h
theorem gE.mono{Q R:Fn->T->Prop}:∀{az:List Fn}{a:Nat}{l:List T},gE Q az a l->(∀f t,f∈az->t∈l->Q f t->R f t)->gE R az a l
 |[],_,[],_,_=>trivial
 |f::r,a,t::l,h,W=>by
  rw[gE]at h |-;exact⟨h.1,W _ _ mem_cons_self mem_cons_self h.2.1,gE.mono h.2.2 fun f t s H=>W f t (ey _ s) (ey _ H)⟩
 |[],_,t::l,h,_=>by cases h
 |f::r,_,[],h,_=>by cases h
def gE.at_{Q:Fn->T->Prop}:∀{az:List Fn}{a:Nat}{l:List T},gE Q az a l->∀(i:Nat)f t,az[i]?=some f->l[i]?=some t->f.body=((a+aZ (l.take i):Nat):Int)/\Q f t
 |[],_,[],_,i,f,t,z,v=>by simp at z
 |f::r,a,t::l,h,i,H,O,z,v=>by
  rw[gE]at h
  cases i with
  |zero=>cases z;cases v;rw[List.take_zero,aZ];exact⟨h.1,h.2.1⟩
  |succ i =>
   have⟨s,e⟩:=gE.at_ h.2.2 i H O zfv zfY;exact⟨by rw[s,List.take_succ_cons,aZ];omega,e⟩
 |[],_,t::l,h,_,_,_,_,_=>by cases h
 |f::r,_,[],h,_,_,_,_,_=>by cases h
structure Ox(f:Fn)(t:T):Prop where
 name:cb f.name=true
 params:dp f.params=true
 aj:t.n.aj=14
 all:dU t=true
section
variable{ak:List Nd}
theorem yQ:∀(az:List Fn)(next:Nat)(e:Int),jk ak az (next:Int)=some (some e)->∃l,dS ak next l/\gE Ox az next l/\e=((next+aZ l:Nat):Int)
 |[],next,e,h=>by rw[jk]at h;grind[dS,gE,aZ]
 |f::r,next,e,h=>by
  rw[jk,eV]at h
  cases Q:pe ak (fN ak) next 0 with
  |none=>grind
  |some F =>
   rw[Q]at h;simp only at h;split at h
   ·cases h
   ·rename_i o;split at h
    ·cases h
    ·rename_i R;have⟨t,z,v⟩:=(Hr _).1 _ _ _ Q aK;have T:=ek.le t _ z;rw[(vF _).1 t next z zfL]at h;simp only at h;split at h
     ·cases h
     ·rename_i G;subst v;have⟨l,s,i,w⟩:=yQ r _ e h;refine⟨t::l,by grind[dS],?_,by grind[aZ]⟩;rw[gE];refine⟨by omega,⟨?_,?_,?_,?_⟩,i⟩
      ·grind
      ·grind
      ·omega
      grind
theorem yP(W:ak.length<=800):∀(az:List Fn)(next:Nat)(l:List T),dS ak next l->gE Ox az next l->jk ak az (next:Int)=some (some ((next+aZ l:Nat):Int))
 |[],next,[],_,_=>by rfl
 |f::r,next,t::l,h,s=>by
  rw[dS]at h;rw[gE]at s;have b:=ek.le t _ h.1;rw[jk,eV,(SA W _).1 t next 0 h.1 (bj _) zfL];simp only;rw[ab (by rw[s.2.1.name];grind),ab (by rw[s.2.1.params];decide),(vF _).1 t next h.1 zfL];simp only;rw[ab (by rw[s.2.1.all];rintro(h|h);exact h s.2.1.aj;cases h),yP W r _ l h.2 s.2.2,aZ]
  grind
 |[],_,t::l,_,h=>by cases h
 |f::r,_,[],_,h=>by cases h
def wN:∀(az:List Fn)(next:Nat),∃r,jk ak az (next:Int)=some r
 |[],next=>⟨_,by rw[jk]⟩
 |f::r,next=>by
  have⟨e,z,v⟩:=(Ly (ak:=ak) (fN ak)).1 next 0 zfL
  rw[jk,eV,z];simp only;split
  ·simp
  ·rename_i o;split
   ·simp
   ·have⟨t,s,i⟩:=(Hr _).1 _ _ _ z aK;have T:=ek.le t _ s;rw[(vF _).1 t next s zfL];simp only;split
    ·simp
    ·rw[i];exact wN r _
end
def Kx(p:Src):∃b,oX p=some b:=by
 unfold oX;split
 ·simp
 ·split
  ·simp
  ·have⟨r,h⟩:=wN (ak:=p.ak) p.az 0;rw[show((0:Nat):Int)=0 from rfl]at h;rw[h]
   cases r<;>exact⟨_,rfl⟩
structure iv(p:Src)(l:List T):Prop where
 aw:dp p.aw=true
 aq:p.aq.all la=true
 st:dS p.ak 0 l
 az:gE Ox p.az 0 l
 len:aZ l=p.ak.length
 few:p.ak.length<=800
def TN{p:Src}(h:oX p=some true):∃l,iv p l:=by
 unfold oX at h;split at h
 ·cases h
 ·rename_i z;split at h
  ·cases h
  ·rename_i v;rw[show(0:Int)=((0:Nat):Int)from rfl]at h
   cases s:jk p.ak p.az ((0:Nat):Int)with
   |none=>grind
   |some r =>
    rw[s]at h
    cases r with
    |none=>cases h
    |some e =>
     have⟨l,t,i,w⟩:=yQ _ _ _ s;simp only[Option.some.injEq,a6,beq_iff_eq,decide_eq_true_eq]at h;exact⟨l,by grind,by grind,t,i,by omega,by omega⟩
def iv.oX{p:Src}{l:List T}(h:iv p l):oX p=some true:=by
 unfold Go.Sp.oX;rw[ab (by rw[h.aw];decide),ab (by rw[h.aq];decide),show(0:Int)=((0:Nat):Int)from rfl,yP h.few _ _ _ h.st h.az];simp only[Option.some.injEq,a6,beq_iff_eq,decide_eq_true_eq];have:=h.len;have:=h.few;omega
def Bx{ak:List Nd}:∀(az:List Fn)(next:Nat)(q l:List T)(e:Nat),lb ak az next q=some (l,e)->∃m,l=q++m/\dS ak next m/\gE (fun _ _=>True) az next m/\e=next+aZ m/\mg m
 |[],next,q,l,e,h=>by rw[lb]at h;grind[dS,gE,aZ,mg]
 |f::r,next,q,l,e,h=>by
  rw[lb]at h
  cases W:tr ak next with
  |none=>grind
  |some x =>
   have⟨t,F⟩:=x;rw[W]at h;simp only at h;split at h
   ·rename_i u;have⟨a1,H,s⟩:=WC _ _ _ _ W;subst H;have⟨m,i,b,R,n,c⟩:=Bx r _ _ _ _ h
    grind[dS,gE,aZ,mg]
   ·cases h
def G9{ak:List Nd}{Q:Fn->T->Prop}:∀(az:List Fn)(next:Nat)(q l:List T),dS ak next l->gE Q az next l->mg l->lb ak az next q=some (q++l,next+aZ l)
 |[],next,q,[],_,_,_=>by rw[lb,aZ];simp
 |f::r,next,q,t::l,h,s,O=>by
  rw[dS]at h;rw[gE]at s;rw[mg]at O;have W:=ek.le t _ h.1;rw[lb,tr,WN _ t next h.1 O.1 aK];simp only;rw[ae s.1,G9 r _ _ l h.2 s.2.2 O.2,aZ]
  grind
 |[],_,_,t::l,_,h,_=>by cases h
 |f::r,_,_,[],_,h,_=>by cases h
mutual
def ek.fl{ak:List Nd}:∀(t:T)(a:Nat),ek ak a t->(ak.take (a+bg t)).drop a=jA a t
 |.mk n l,a,h=>by
  have W:=ek.le _ _ h;rw[ek]at h;rw[bg]at W;have z:=dS.fl l (a+1) h.2.2 aK;rw[jA,<-h.2.1,<-z,bg,show a+(aZ l+1)=a+1+aZ l by omega]
  have v:(ak.take (a+1+aZ l))[a]?=some n:=by grind
  have⟨I,c⟩:=bG v;rw[kP I,c]
def dS.fl{ak:List Nd}:∀(l:List T)(a:Nat),dS ak a l->a<=ak.length->(ak.take (a+aZ l)).drop a=en a l
 |[],a,h,O=>by
  simp[aZ,en]
 |t::r,a,h,O=>by
  rw[dS]at h;have W:=ek.le _ _ h.1;have z:=ek.fl t a h.1;have v:=dS.fl r (a+bg t) h.2 W;have I:=dS.le r _ h.2 W;rw[en,<-z,<-v,aZ,show a+(bg t+aZ r)=a+bg t+aZ r by omega]
  grind[Nat.min_eq_left,iX,List.take_append_drop]
end
def dS.all{ak:List Nd}{l:List T}(h:dS ak 0 l)(W:aZ l=ak.length):ak=en 0 l:=by
 have:=dS.fl l 0 h (bj _)
 grind
end Go.Im
