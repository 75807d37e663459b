/- Part 1 of proofs that are told in their last texts. -/
open List (cons_append getElem?_append getElem?_cons_zero getElem?_eq_none length_cons mem_map nil_append tail_cons)
set_option linter.unusedVariables false
set_option linter.unusedSimpArgs false
set_option maxRecDepth 100000
namespace Go
theorem zaa {A B:Prop} (h:B) (s:PLift B->A:=by intro hQ;refine lj ?_;refine GL.wk (Wk.freeze (i:=0) rfl rfl rfl (aX _)) ?_;refine GL.wk (Wk.freeze (i:=1) rfl rfl rfl (aX _)) ?_;refine GN (by simp only [qD,pP];rfl) ?_;refine I ?_;exact hQ.1):A:=s ⟨h⟩
theorem zab {A:Prop} (s:A:=by refine ai func129 ntmps129 ?_;refine V [] hS ?_;refine GL.borrow hN (fun B K β w l hI hF=>mI (A:=[_,_,_]) (C:=[]) hI hF rfl rfl rfl) ?_;refine cM ?_;exact oE):A:=s
theorem zac {A B:Prop} (h:B) (s:PLift B->A:=by intro hQ;refine V [0] ht ?_;refine V [0] eA ?_;refine V [0] D ?_;refine V [0] X ?_;exact hQ.1):A:=s ⟨h⟩
theorem zad {A:Prop} (s:A:=by simp only [aO,length_cons,length_nil];omega):A:=s
theorem zae {A:Prop} (s:A:=by generalize tok p 0=tk at *;refine aM (ay 0 45 (.a 45 (.q 46 .nil))) ?_;refine bq ?_;exact jP):A:=s
theorem zaf {A:Prop} (s:A:=by refine V [] hc ?_;refine b6 ?_;exact ⟨by first | rfl | (rw [be];rfl),rfl⟩):A:=s
theorem zag {A:Prop} (s:A:=by refine I ?_;have hc:=eW s hs;rw [h0] at hc;refine V [] hc ?_;exact al):A:=s
theorem zah {A B:Prop} (h:B) (s:PLift B->A:=by intro hQ;refine I ?_;refine GL.hO 1 rfl rfl rfl rfl rfl rfl rfl rfl az kO ?_;exact hQ.1):A:=s ⟨h⟩
theorem zai {A:Prop} (s:A:=by rw [pB];exact ⟨x,⟨_,_,Wk.aJ ar,_,_,rfl,rfl,by omega,e2,e3,e1⟩,by omega⟩):A:=s
theorem zaj {A:Prop} (s:A:=by obtain ⟨⟨kk,aa,vv,ss,ks⟩,l⟩:=t;obtain ⟨D,X,h3,hl⟩:=eY ht;simp only at D X h3;subst D X h3;obtain ⟨x,rfl,hx⟩:=yw hl;simp only [E.ok,aI] at ho;rw [E.tree,wt] at hb;simp only [fM,lim] at hb;have hc:=C x ho.2 hx (by unfold lim;omega);have hle:=(E.len a ho.2).2;have hr:(bd [x])[0]?=some (cT x):=dB rfl;rw [E.full];generalize a.full=y at *;simp only [cT,T.n,T.kids] at |-;refine ai func255 ntmps255 ?_;refine aM (ay 0 8 (.a 8 (ay 9 3 .nil))) ?_;refine ak ?_;refine aB [] hc ?_;exact aw):A:=s
theorem zak {A:Prop} (s:A:=by exact ⟨rfl,rfl⟩):A:=s
theorem zal {A B:Prop} (h:B) (s:PLift B->A:=by intro hQ;refine b7 ?_;refine I ?_;exact hQ.1):A:=s ⟨h⟩
theorem zam {A:Prop} (s:A:=by refine I ?_;exact ⟨rfl,rfl,_,_,Wk.aJ ar,rfl,rfl,by rw [bL,ba];rfl⟩):A:=s
theorem zan {A:Prop} (s:A:=by obtain ⟨⟨kk,aa,vv,ss,ks⟩,l⟩:=t;obtain ⟨D,X,h3,hl⟩:=eY ht;simp only at D X h3;subst D X h3;obtain ⟨x0,rfl,oV⟩:=yw hl;simp only [S.ok] at ho;rw [S.tree,wt] at hb;simp only [fM,lim] at hb;have r7:=sj b (a:=a) ho (by unfold lim;omega) x0 oV;have wy:=kZ b a ho;have vy:(bd [x0])[0]?=some (cT x0):=dB rfl;rw [S.bF];generalize a.out b=y0 at *;simp only [cT,T.n,T.kids];refine ai func194 ntmps194 ?_;refine V [] r7 ?_;exact al):A:=s
theorem zao {A:Prop} (s:A:=by simp only [List.map_cons,map_nil,getD_cons_zero,getD_cons_succ,aO,length_cons,length_nil] at hlen |-;have ub:=eQ b (by rw [ha];simp) G;generalize tx a=x at *;generalize py tx inl d b=y at *;clear eQ iF ih;generalize c6 [a,b]=rows at *;refine ei func208 ntmps208 ?_;refine zaa ?_;refine aM (.q 0 (ay 4 8 (.a 1 (.q 2 (.q 3 (.a 12 (.q 13 (.q 14 .nil)))))))) ?_;refine ak ?_;refine kP [] h0 ?_;refine ak ?_;refine aB [] ub ?_;exact aw):A:=s
theorem zap {A:Prop} (s:A:=by refine I ?_;exact ⟨_,_,Wk.aJ ar,pH.next ⟨c,p,_,_,_,_,ns,rfl,rfl,ic,HG,hw,fh,hi⟩⟩):A:=s
theorem zaq {A B:Prop} (h:B) (s:PLift B->A:=by intro hQ;refine ak ?_;refine OQ rfl (YG.jb 7 rfl rfl rfl iR hi) ?_;refine mj ?_;refine ak ?_;exact hQ.1):A:=s ⟨h⟩
theorem zar {A:Prop} (s:A:=by obtain ⟨m5,m6,fin⟩:=fin _ _ e;refine ai func160 ntmps160 ?_;refine V [0] m1 ?_;refine V [0] m2 ?_;refine V [0] m3 ?_;refine aM (ay 0 24 .nil) ?_;refine bq ?_;refine V [0] m4 ?_;refine V [0] (kL p2.next 7 p2.next.place) ?_;refine V [0] m5 ?_;refine GL.hO 2 rfl rfl rfl rfl rfl rfl rfl rfl az kO ?_;intro a c;refine cY ?_;refine I ?_;refine V [0] m6 ?_;refine iZ ?_;exact fin _ _ _ RV):A:=s
theorem zas {A:Prop} (s:A:=by rw [S.tk] at ht;obtain ⟨t,r,rfl,D,_⟩:=map_cons ht;exact ⟨t,r,rfl,fun rest=>by rw [u4 D];decide⟩):A:=s
theorem zat {A B:Prop} (h:B) (s:PLift B->A:=by intro hQ;refine V [0] (c9 p 0 hp aC) ?_;refine V [0] (cJ p.next [40] dU aC) ?_;refine V [0] (Aq (d+1) _ e p1 Ah G he) ?_;refine V [0] (cJ p1 [41] lW aC) ?_;refine aM (ay 0 4 (.a 4 (.a 5 (.q 6 .nil)))) ?_;refine ak ?_;exact hQ.1):A:=s ⟨h⟩
theorem zau {A B:Prop} (h:B) (s:PLift B->A:=by intro hQ;refine du ?_;refine ak ?_;exact hQ.1):A:=s ⟨h⟩
theorem zav {A:Prop} (s:A:=by rename_i x hx;exact ⟨fun t r h=>(by cases h),fun h h0=>X (by simp only [qE,length_cons] at h |-;omega) (hx.trans h0)⟩):A:=s
theorem zaw {A:Prop} (s:A:=by refine ai func131 ntmps131 ?_;refine V [] hL ?_;exact al):A:=s
theorem zax {A:Prop} (s:A:=by refine ai func78 ntmps78 ?_;refine V [0] D ?_;refine V [0] h3 ?_;exact al):A:=s
theorem zay {A:Prop} (s:A:=by have X:=db code 8 c1 hl i1;have r2:=cI code c1 (n:=8) G;generalize aY code 8 c1=a at *;obtain ⟨j,c2⟩:=a;simp only at X r2 |-;obtain ⟨m,rfl⟩:∃ m:Nat,j=(m:Int):=⟨j.toNat,by omega⟩;have hr:=p9 (l:=A6) (m:=m) (by show m < 8;omega);refine ai func247 ntmps247 ?_;refine V [0] D ?_;refine zal ?_;refine V [0] X ?_;exact al):A:=s
theorem zaz {A:Prop} (s:A:=by exact ⟨_,_,E8,⟨Eu,rfl,hq⟩,.pass (x:=.inLoop c) rfl (fun _ _=>.inl (by simp)) zV⟩):A:=s
theorem zaA {A:Prop} (s:A:=by exact ⟨fun t r h=>(by cases h;simp only [length_cons];omega),fun _ h=>(by cases h)⟩):A:=s
theorem zaB {A:Prop} (s:A:=by obtain ⟨r,lz,et⟩:=List.mem_flatten.1 (br h7);exact (h4 r lz).2 g et):A:=s
theorem zaC {A B:Prop} (h:B) (s:PLift B->A:=by intro hQ;refine cV ?_;refine I ?_;exact hQ.1):A:=s ⟨h⟩
theorem zaD {A:Prop} (s:A:=by exact ⟨_,_,rfl⟩):A:=s
theorem zaE {A:Prop} (s:A:=by rename_i x hm;exact ⟨fun t r h=>(by cases h),fun _ h=>rL hm (by cases h;rfl)⟩):A:=s
theorem zaF {A:Prop} (s:A:=by exact ⟨fun h=>absurd h (by simp),fun h=>absurd h (by simp),E.wf a,trivial⟩):A:=s
theorem zaG {A:Prop} (s:A:=by exact ⟨fun t r h=>(by cases h;omega),fun _ h=>(by cases h)⟩):A:=s
theorem zaH {A B:Prop} (h:B) (s:PLift B->A:=by intro hQ;refine V [] hB ?_;refine V [] hC ?_;refine V [] hL ?_;refine V [] hX ?_;refine V [] hP ?_;exact hQ.1):A:=s ⟨h⟩
theorem zaI {A:Prop} (s:A:=by have h0:=iF 0 a (by rw [ha];rfl);rw [ha] at hlen |-;rw [ha] at h0;simp only [List.map_cons,map_nil,getD_cons_zero,aO,length_cons,length_nil] at hlen |-;generalize tx a=x at *;generalize c6 [a]=rows at *;refine ei func208 ntmps208 ?_;refine zaa ?_;refine jB [] h0 ?_;exact aw):A:=s
theorem zaJ {A B:Prop} (h:B) (s:PLift B->A:=by intro hQ;rw [rs,ab aq];simp only;rw [ab (by rw [hv];decide),ae (.inl hv),tail_cons,k2];simp only;exact hQ.1):A:=s ⟨h⟩
theorem zaK {A:Prop} (s:A:=by simp only [fM,aO,length_cons,length_nil];omega):A:=s
theorem zaL {A:Prop} (s:A:=by refine GL.hO 2 rfl rfl rfl rfl rfl rfl rfl rfl az kO ?_;intro a c;refine cY ?_;rw [xC,nO];refine I ?_;refine zal ?_;refine V [0] (fL p2 [59] (hx { st with globals:=st.globals++[s] } { h with aG:=a,cG:=c }) eB) ?_;refine dN ?_;exact ⟨rfl,{ h with aG:=a,cG:=c },rfl⟩):A:=s
theorem zaM {A:Prop} (s:A:=by unfold gA at vo jI;generalize S.dy (E.out b) [123,32] p++[125]=y1 at *;simp only [cT,T.n,T.kids];refine ai func194 ntmps194 ?_;refine aM (ay 0 5 (ay 8 5 (.a 5 (.q 6 (.q 7 (.a 13 (.q 14 (.q 15 .nil)))))))) ?_;refine ak ?_;refine aB [] r7 ?_;refine aB [] vo ?_;exact aw):A:=s
theorem zaN {A:Prop} (s:A:=by refine V [0] X ?_;refine zal ?_;refine V [0] hw ?_;refine V [0] hex ?_;refine n7 ?_;refine I ?_;refine zal ?_;refine V [0] pU ?_;refine V [0] eQ ?_;refine fv ?_;refine I ?_;refine GL.wk (Wk.lr (t:=108) rfl rfl rfl rfl) ?_;refine cY ?_;refine V [] jU ?_;exact al):A:=s
theorem zaO {A B:Prop} (h:B) (s:PLift B->A:=by intro hQ;refine I ?_;refine aM (ay 0 7 (.a 7 (ay 8 4 (.q 13 (.q 16 (.a 12 (.q 14 (.q 15 (.a 17 (.q 18 (.a 19 (.q 20 .nil)))))))))))) ?_;exact hQ.1):A:=s ⟨h⟩
theorem zaP {A:Prop} (s:A:=by refine aM (ay 0 7 (.a 7 (.a 8 (.a 9 (.q 10 .nil))))) ?_;refine ak ?_;refine aB [0] Ad ?_;refine zau ?_;refine aB [] jU ?_;exact aw):A:=s
theorem zaR {A B:Prop} (h:B) (s:PLift B->A:=by intro hQ;refine zal ?_;refine V [0] hw ?_;exact hQ.1):A:=s ⟨h⟩
theorem zaS {A B:Prop} (h:B) (s:PLift B->A:=by intro hQ;refine cM ?_;refine I ?_;exact hQ.1):A:=s ⟨h⟩
theorem zaT {A:Prop} (s:A:=by exact ⟨_,iw,rfl,rfl⟩):A:=s
theorem zaU {A:Prop} (s:A:=by exact ⟨rfl,rfl,_,_,Wk.aJ ar,rfl,rfl⟩):A:=s
theorem zaV {A:Prop} (s:A:=by rw [dK,di] at ba;rw [jk ba];exact aw):A:=s
theorem zaW {A B:Prop} (h:B) (s:PLift B->A:=by intro hQ;refine I ?_;refine aM (ay 0 10 (.a 10 (.q 11 (.q 12 .nil)))) ?_;exact hQ.1):A:=s ⟨h⟩
theorem zaX {A:Prop} (s:A:=by rw [he] at h;cases h):A:=s
theorem zaY {A B:Prop} (h:B) (s:PLift B->A:=by intro hQ;refine I ?_;refine aM (ay 0 8 (.a 8 (.q 9 (.q 10 .nil)))) ?_;refine ak ?_;refine bV [] hA ?_;exact hQ.1):A:=s ⟨h⟩
theorem zaZ {A:Prop} (s:A:=by refine I ?_;refine GL.hO 0 rfl rfl rfl rfl rfl rfl rfl rfl az kO ?_;intro a2 c2;refine cY ?_;refine I ?_;exact ⟨rfl,rfl,_,_,(Wk.cut (n:=2) (aX _) rfl).trans (Wk.aJ ar),a2,c2,_,_,rfl,rfl,by simp [lT],bL.symm⟩):A:=s
theorem za0 {A:Prop} (s:A:=by rw [hb] at h;cases h):A:=s
theorem za1 {A B:Prop} (h:B) (s:PLift B->A:=by intro hQ;refine dF ?_;refine I ?_;exact hQ.1):A:=s ⟨h⟩
theorem za2 {A B:Prop} (h:B) (s:PLift B->A:=by intro hQ;refine cY ?_;refine I ?_;exact hQ.1):A:=s ⟨h⟩
theorem za3 {A:Prop} (s:A:=by refine ai func131 ntmps131 ?_;refine V [] hL ?_;refine V [] hA ?_;exact al):A:=s
theorem za4 {A B:Prop} (h:B) (s:PLift B->A:=by intro hQ;refine I ?_;refine aM (ay 0 4 (.a 4 (.q 5 (.q 6 (.a 7 .nil))))) ?_;refine ak ?_;refine np [0] g3 ?_;simp only [ef];refine zaq ?_;exact hQ.1):A:=s ⟨h⟩
theorem za5 {A B:Prop} (h:B) (s:PLift B->A:=by intro hQ;unfold pL cL;simp only [cons_append,nil_append];refine I ?_;exact hQ.1):A:=s ⟨h⟩
theorem za6 {A B:Prop} (h:B) (s:PLift B->A:=by intro hQ;refine aM (ay 0 21 (.a 21 (ay 22 13 (.a 35 (.q 36 (.q 37 .nil)))))) ?_;exact hQ.1):A:=s ⟨h⟩
theorem za7 {A B:Prop} (h:B) (s:PLift B->A:=by intro hQ;refine zac ?_;refine V [0] h3 ?_;refine V [0] h4 ?_;exact hQ.1):A:=s ⟨h⟩
theorem za8 {A:Prop} (s:A:=by exact ⟨fun t r h=>(by cases h),fun _ h=>(by cases h)⟩):A:=s
theorem za9 {A:Prop} (s:A:=by obtain ⟨g,rfl,nu,gR⟩:=qX hg;rw [iS,gQ,ae hp.code,ab uG,ab qv,ab vz,ab mQ,D g gR];simp only;rw [ab mP]):A:=s
theorem zba {A:Prop} (s:A:=by refine V [] h ?_;exact al):A:=s
theorem zbb {A:Prop} (s:A:=by simp only [Value.ownBlock,Option.some.injEq] at bH;exact .inr (by omega)):A:=s
theorem zbc {A:Prop} (s:A:=by rw [ae rfl];have X:=xK c1 i1;have b2:=nK code d c1;generalize iz code d c1=a at *;obtain ⟨s,c2⟩:=a;simp only at X b2 |-;refine ai func247 ntmps247 ?_;refine V [0] D ?_;refine V [0] X ?_;exact al):A:=s
theorem zbd {A:Prop} (s:A:=by obtain ⟨q,D,X⟩:=hb i b hi;obtain ⟨r,h3,h4⟩:=hb j b hj;have:=h.dis q r b X h4;subst this;obtain ⟨a1,a2⟩:=bu D;obtain ⟨b1,b2⟩:=bu h3;exact (List.getElem_inj hn).1 (a2.trans b2.symm)):A:=s
theorem zbe {A:Prop} (s:A:=by rw [show (st.fns.map sn).length+[sn (s,acc)].length=(st.fns++[(s,acc)]).length by simp,<-yO sn st.fns (s,acc)];refine bq ?_;refine dN ?_;exact ⟨rfl,{ h with aT:=a3,cT:=c3,aF:=a4,cF:=c4 },rfl⟩):A:=s
theorem zbf {A B:Prop} (h:B) (s:PLift B->A:=by intro hQ;unfold gI re si kK;rw [ab (show ¬ (T.mk n l).n.s=_ from n1),ab (show ¬ (T.mk n l).n.s=_ from n2),ab (show ¬ (T.mk n l).n.s=_ from n3)];show (match p.fns.findIdx? (fun f:Go.Sp.Fn=>f.name==n.s) with | none=>_ | some i=>_)=_;rw [hx];exact hQ.1):A:=s ⟨h⟩
theorem zbg {A:Prop} (s:A:=by refine aM (ay 0 33 (.a 33 (.q 34 (.q 35 .nil)))) ?_;refine ak ?_;exact bh ⟨_,_,Wk.aJ ar,rfl,rfl⟩):A:=s
theorem zbh {A:Prop} (s:A:=by exact ⟨_,_,Wk.aJ ar,rfl,rfl,fun j x y h=>by omega⟩):A:=s
theorem zbi {A:Prop} (s:A:=by exact .inr ⟨x,rfl,X.tr (y:=.error x) k3⟩):A:=s
theorem zbj {A:Prop} (s:A:=by refine ⟨fun hb=>(by simp at hb),fun _=>?_⟩;obtain ⟨pos,k1⟩:=hi.2 hfa;refine ⟨pos,uB fun f=>?_⟩;rw [rs,ab aq];simp only;rw [ab (by rw [hv];decide),ae (.inl hv),tail_cons,k1]):A:=s
theorem zbk {A B:Prop} (h:B) (s:PLift B->A:=by intro hQ;refine I ?_;refine aM (ay 0 6 (.q 7 (.q 10 (.a 6 (.q 8 (.q 9 (.a 11 (.a 12 (.q 13 .nil))))))))) ?_;refine ak ?_;refine bV [] kx ?_;refine bV [0] (c9 p 0 hp aC) ?_;refine bV [] (ll (levels.getD k []) (p.sign 0) (Ep k hk)) ?_;exact hQ.1):A:=s ⟨h⟩
theorem zbl {A:Prop} (s:A:=by refine ⟨ts++us,by simp [D,h3],?_⟩;rw [fP] at h4 |-;rw [aO] at h4 |-;rw [<-iy];exact X.app h4):A:=s
theorem zbm {A:Prop} (s:A:=by refine V [0] (cJ p2 [59] eB aC) ?_;refine zal ?_;refine V [] (iH 12 at_ [] [e] _ qs) ?_;exact fx):A:=s
theorem zbn {A:Prop} (s:A:=by have hz:=ES (br X);have:=hl.len;have:=Fv p i f t G (fun n h=>by have:=(d2 n h).2;omega) G G G D (by have:=(c2 f (br D)).2.1;omega) G (by rw [hb];exact h7) G;rw [hb] at this;exact this):A:=s
theorem zbo {A B:Prop} (h:B) (s:PLift B->A:=by intro hQ;rw [rd.eq_def];simp only;rw [ab aq,ab aq,ab aq,uY X hl];simp only;exact hQ.1):A:=s ⟨h⟩
theorem zbp {A:Prop} (s:A:=by obtain ⟨j,hj⟩:=List.mem_iff_getElem?.1 Pt;refine ⟨(hr j r hj).1,fun g hg=>?_⟩;obtain ⟨q,hq⟩:=List.mem_iff_getElem?.1 hg;exact (hI.fz _ _ _ ((hr j r hj).2 q g hq)).1):A:=s
theorem zbq {A:Prop} (s:A:=by exact .inr rfl):A:=s
theorem zbr {A:Prop} (s:A:=by refine ai func308 ntmps308 ?_;refine V [0] yC ?_;refine aM (ay 0 17 .nil) ?_;refine bq ?_;refine V [0] (ky p1 mO) ?_;refine V [0] (kL p1 7 p1.place) ?_;refine tD ?_;exact zaT):A:=s
theorem zbs {A:Prop} (s:A:=by obtain ⟨g,rfl,hg⟩:=up hg;rw [mS,eA];rw [ab KT,ab Hw,ab KQ,ab mQ,D];simp only;rw [ab mP]):A:=s
theorem zbt {A B:Prop} (h:B) (s:PLift B->A:=by intro hQ;rw [rs,ab aq];simp only;rw [ab (cl _ ao),ab (fun h=>h.elim (cl _ ao) (cl _ ao)),ab (cl _ ao)];simp only [simple];exact hQ.1):A:=s ⟨h⟩
theorem zbu {A:Prop} (s:A:=by exact this.trans (c7 (this.ok hp) _)):A:=s
theorem zbv {A:Prop} (s:A:=by rw [hb] at h;rw [hit hb];refine I ?_;refine jB [] h ?_;exact aw):A:=s
theorem zbw {A:Prop} (s:A:=by rw [S.tree,jj,ep,ep,ep,jj];exact ⟨fun h=>absurd h (by simp),fun h=>absurd h (by simp),E.wf c,⟨fun h=>absurd h (by simp),fun h=>absurd h (by simp),S.DS b⟩,trivial⟩):A:=s
theorem zbx {A:Prop} (s:A:=by refine V [0] he ?_;refine fv ?_;refine I ?_;exact ⟨(g,acc++[a],p2),⟨_,_,Wk.aJ ar,_,_,rfl,rfl,by simp [hn],by rw [xW,bx],by show n+1+g<=f+1;omega,eB,h⟩,by simp⟩):A:=s
theorem zby {A B:Prop} (h:B) (s:PLift B->A:=by intro hQ;refine I ?_;refine GL.q (YG.wM rfl rfl G) ?_;refine cM ?_;rw [wB];refine I ?_;exact hQ.1):A:=s ⟨h⟩
theorem zbz {A:Prop} (s:A:=by obtain ⟨D,_⟩:=eY ht;simp only [T.n,D,ph];rfl):A:=s
theorem zbA {A:Prop} (s:A:=by obtain ⟨f0,h0⟩:=h;obtain ⟨dH,D⟩:=X;refine ⟨f0+dH+1,fun f hf=>?_⟩;obtain ⟨f,rfl⟩:∃ g,f=g+1:=⟨f - 1,by omega⟩;exact hs f (h0 f aq) (D f aq)):A:=s
theorem zbB {A B:Prop} (h:B) (s:PLift B->A:=by intro hQ;refine aM (ay 0 3 (.a 3 (.a 4 (.a 5 (.q 6 (.a 7 .nil)))))) ?_;refine ak ?_;exact hQ.1):A:=s ⟨h⟩
theorem zbC {A B:Prop} (h:B) (s:PLift B->A:=by intro hQ;rw [iS,gQ,ae hp.code,ab uG,ae qv,D g gR];simp only;rw [h4 g nu];simp only;exact hQ.1):A:=s ⟨h⟩
theorem zbD {A:Prop} (s:A:=by rw [S.tree,zT,jL,jL];exact ⟨fun _=>rfl,E.z a,trivial⟩):A:=s
theorem zbE {A:Prop} (s:A:=by refine ai func108 ntmps108 ?_;refine aM (ay 0 7 (.a 7 (.q 8 .nil))) ?_;refine ak ?_;refine aB [] hA ?_;refine I ?_;refine dN ?_;exact ⟨rfl,eb,ec,rfl⟩):A:=s
theorem zbF {A:Prop} (s:A:=by refine I ?_;have hc:=fV (.mk ⟨5,a,0,s,ks⟩ l) 1 hl;refine V [] hc ?_;exact al):A:=s
theorem zbG {A B:Prop} (h:B) (s:PLift B->A:=by intro hQ;refine I ?_;refine V [] he ?_;exact hQ.1):A:=s ⟨h⟩
theorem zbH {A:Prop} (s:A:=by exact this.trans (bG (this.ok dv) ao)):A:=s
theorem zbI {A B:Prop} (h:B) (s:PLift B->A:=by intro hQ;refine dM ?_;refine bq ?_;exact hQ.1):A:=s ⟨h⟩
theorem zbJ {A:Prop} (s:A:=by refine ak ?_;exact aw):A:=s
theorem zbK {A:Prop} (s:A:=by refine V [0] hex ?_;refine zal ?_;refine V [0] pU ?_;refine zal ?_;refine V [] jU ?_;exact al):A:=s
theorem zbL {A:Prop} (s:A:=by refine fv ?_;refine I ?_;exact ⟨rfl,rfl,_,_,Wk.aJ ar,_,_,_,rfl,rfl,by simp [lU],bL.symm⟩):A:=s
theorem zbM {A:Prop} (s:A:=by simp only [S.ok,aI] at h;have:=hx c h.1;have:=S.lens x hx b h.2 [123,32];rw [S.bF,S.tree,wt];simp only [fM,wt,aO,length_cons,length_nil] at *;omega):A:=s
theorem zbN {A:Prop} (s:A:=by rw [hb] at h bL;refine I ?_;refine jB [] h ?_;exact zam):A:=s
theorem zbO {A:Prop} (s:A:=by rw [lZ] at hs;refine I ?_;refine kl [] hs ?_;refine I ?_;exact ⟨rfl,rfl,_,_,(Wk.cut (n:=0) (aH _) rfl).trans (Wk.aJ ar),rfl,rfl,oa ny qw fE lZ⟩):A:=s
theorem zbP {A:Prop} (s:A:=by refine zaC ?_;refine bU [] (DX s G) ?_;rintro _ _ ⟨rfl,p,z1,z2,hw,hn,rfl⟩;refine zaC ?_;refine iZ ?_;exact ⟨c2,p,i2,by omega,hn,rfl,rfl⟩):A:=s
theorem zbQ {A:Prop} (s:A:=by simp only [S.ok,aI] at h;have X:=E.gX c h.1;have h3:=mJ c;have h4:=S.xp b h.2;rw [S.tree,dQ,cR,cR,cR,X,h4];simp [cy,own,T.n,T.kids,bJ];exact h3):A:=s
theorem zbR {A:Prop} (s:A:=by obtain ⟨K',bR,bA,xz⟩:=h B K β w l hm hI hF;exact k B K' bR w l hm bA xz):A:=s
theorem zbS {A:Prop} (s:A:=by exact hn.tr (y:=.error x) h4):A:=s
theorem zbT {A:Prop} (s:A:=by simpa using this):A:=s
theorem zbU {A:Prop} (s:A:=by refine ai func234 ntmps234 ?_;refine aM (ay 0 7 (.a 7 (.q 8 .nil))) ?_;refine ak ?_;refine aB [] hF ?_;refine I ?_;refine V [0] jo ?_;exact al):A:=s
theorem zbV {A:Prop} (s:A:=by rw [List.contains_cons,List.contains_nil,Bool.or_false];exact Bool.beq_comm):A:=s
theorem zbW {A:Prop} (s:A:=by refine .sl g 0 _ k rows (fun j r hr=>⟨(o4 r (br hr)).1,fun q g' kU=>?_⟩) sG;rw [ed];exact FF _ g o1 (by rw [e5];rfl) _ g' (vP o4 hr kU)):A:=s
theorem zbX {A:Prop} (s:A:=by refine ai func184 ntmps184 ?_;refine V [] hS ?_;refine V [] hM ?_;exact al):A:=s
theorem zbY {A:Prop} (s:A:=by refine I ?_;refine fv ?_;refine I ?_;exact ⟨rfl,rfl,_,_,(Wk.cut (n:=3) (dP rfl) rfl).trans (Wk.aJ ar),_,_,rfl,rfl,by simp [lT],bL.symm⟩):A:=s
theorem zbZ {A:Prop} (s:A:=by rw [hg] at ek;refine ai func181 ntmps181 ?_;refine V [] oQ ?_;refine V [] kW ?_;refine V [] pn ?_;refine V [] ek ?_;refine og ?_;exact zak):A:=s
theorem zb1 {A:Prop} (s:A:=by exact ⟨1,⟨_,_,Wk.aJ ar,rfl,rfl,by omega,tI 1 rfl ht⟩,by omega⟩):A:=s
theorem zb2 {A B:Prop} (h:B) (s:PLift B->A:=by intro hQ;refine GL.q (YG.wM rfl rfl kH) ?_;refine zaS ?_;refine V [] hC ?_;exact hQ.1):A:=s ⟨h⟩
theorem zb3 {A:Prop} (s:A:=by unfold pL cL;simp only;rw [<-e1,e2];rfl):A:=s
theorem zb4 {A:Prop} (s:A:=by rw [S.tk] at ht;obtain ⟨t,r,rfl,D,_⟩:=map_cons ht;obtain ⟨D,_⟩:=sf D;exact ⟨t,r,rfl,fun rest=>⟨kg D ao,kg D ao⟩⟩):A:=s
theorem zb5 {A B:Prop} (h:B) (s:PLift B->A:=by intro hQ;refine I ?_;refine b6 ?_;exact hQ.1):A:=s ⟨h⟩
theorem zb6 {A:Prop} (s:A:=by refine lj ?_;refine GL.wk (Wk.freeze (i:=1) rfl rfl rfl (aX _)) ?_;refine GN (by simp only [qD,pP];rfl) ?_;refine I ?_;exact zba):A:=s
theorem zb7 {A:Prop} (s:A:=by refine bq ?_;exact ⟨rfl,rfl,_,_,Wk.aJ ar,rfl,rfl,oa ny qw fE lZ⟩):A:=s
theorem zb8 {A:Prop} (s:A:=by obtain ⟨f0,h0⟩:=h;refine ⟨f0+1,fun f hf=>?_⟩;obtain ⟨f,rfl⟩:∃ g,f=g+1:=⟨f - 1,by omega⟩;exact hs f (h0 f aq)):A:=s
theorem zb9 {A:Prop} (s:A:=by obtain ⟨h0,xs,D,X,h3,h4,h5⟩:=h;refine ⟨h0,xs,D,X,⟨h3.1,fun i v g h6 h7=>(h3.2 i v g h6 h7).pc ?_⟩,h4,h5⟩;exact zaB):A:=s
theorem zca {A B:Prop} (h:B) (s:PLift B->A:=by intro hQ;refine I ?_;refine V [0] hi ?_;exact hQ.1):A:=s ⟨h⟩
theorem zcb {A B:Prop} (h:B) (s:PLift B->A:=by intro hQ;refine aM (ay 0 7 (.a 7 (.a 8 (.q 9 (.q 10 (.a 11 .nil)))))) ?_;refine ak ?_;refine zau ?_;exact hQ.1):A:=s ⟨h⟩
theorem zcc {A:Prop} (s:A:=by simp only;obtain ⟨g,rfl⟩:∃ g',g=g'+1:=⟨g - 1,by omega⟩;rw [rK,ab (by rw [nk (b9.err k2)];decide),iI (b9.err k2) ao]):A:=s
theorem zcd {A:Prop} (s:A:=by exact ⟨by simp;omega,by simp;omega,by simp;omega,by simp;omega⟩):A:=s
theorem zce {A:Prop} (s:A:=by rw [h];rcases hs with rfl | rfl | rfl | rfl | rfl | rfl <;> decide):A:=s
theorem zcf {A:Prop} (s:A:=by refine I ?_;refine V [] hc ?_;exact ⟨rfl,rfl,_,_,(Wk.cut (n:=0) (dP rfl) rfl).trans (Wk.aJ ar),_,rfl,rfl,by rw [nP,hj]⟩):A:=s
theorem zcg {A:Prop} (s:A:=by simp only [S.ok,aI] at h;have X:=E.gX a h.2;have h3:=mJ a;rw [S.tree,dQ,cR,cR,X];simp [cy,own,T.n,T.kids,h.1,bJ];exact h3):A:=s
theorem zch {A:Prop} (s:A:=by obtain ⟨xs,D,X,h3,h4,h5⟩:=h;refine ⟨xs,D,X,⟨h3.1,fun i v g h6 h7=>(h3.2 i v g h6 h7).pc ?_⟩,h4,h5⟩;exact zaB):A:=s
theorem zci {A B:Prop} (h:B) (s:PLift B->A:=by intro hQ;refine I ?_;refine V [0] (c9 p 0 hp aC) ?_;exact hQ.1):A:=s ⟨h⟩
theorem zcj {A B:Prop} (h:B) (s:PLift B->A:=by intro hQ;refine cM ?_;simp only [nil_append,length_nil,ed];refine I ?_;exact hQ.1):A:=s ⟨h⟩
theorem zck {A:Prop} (s:A:=by rw [mN] at fE;rw [pN hl fE];exact aw):A:=s
theorem zcl {A:Prop} (s:A:=by obtain ⟨g,rfl,hg⟩:=nZ hg;rw [iE,gQ,ae hp.code,ab wA,ab dp,ab bH,ae k2.1.code,ab xA,ae qv,k3 g aq];simp only [ht]):A:=s
theorem zcn {A:Prop} (s:A:=by rw [List.map_cons,sum_cons,ih (fun r hr=>hk r (dm _ hr)),(hk r (mem_cons_self)).1,length_cons,Nat.succ_mul];omega):A:=s
theorem zco {A:Prop} (s:A:=by simp only [S.ok] at h;have X:=E.gX a h;have h3:=mJ a;rw [S.tree,dQ,cR,cR,X];simp [cy,own,T.n,T.kids,bJ];exact h3):A:=s
theorem zcp {A:Prop} (s:A:=by simp only [S.ok,aI] at h;have hb:=xo b h.2 d;rw [S.tree,mb,List.map_cons,lg c h.1,rW,rW,rW,hb,S.bF];simp [zy,gA]):A:=s
theorem zcq {A:Prop} (s:A:=by refine ⟨q',h4.tr h5,fun acK=>?_⟩;obtain ⟨u,r,rfl,_,_⟩:=map_cons D;rw [length_cons,<-iy,sW hp h3,h6];simp):A:=s
theorem zcr {A:Prop} (s:A:=by exact this.trans (D _ _ _ _ (this.ok hp) h)):A:=s
theorem zcs {A:Prop} (s:A:=by refine ⟨K1,D,X,?_⟩;show bs K1 _ [ev l x,ev l y] _;rw [hF.ko hx,hF.ko hy];exact .cons h3 (.cons (.v _) .nil)):A:=s
theorem zct {A:Prop} (s:A:=by refine V [] jU ?_;exact al):A:=s
theorem zcu {A:Prop} (s:A:=by refine zaC ?_;refine iZ ?_;exact ⟨c2,p,i2,hw,hn,rfl,rfl⟩):A:=s
theorem zcv {A:Prop} (s:A:=by obtain ⟨g,rfl,hg⟩:=nZ hg;rw [iE,gQ,ae hp.code,ab wA,ab dp,ab bH,ae k2.1.code,ae xA,k3 g aq];simp only [ht]):A:=s
theorem zcw {A:Prop} (s:A:=by subst he;refine I ?_;refine aM (ay 0 8 (.a 8 (.q 9 (.q 10 .nil)))) ?_;refine bq ?_;refine V [0] KA ?_;exact jP):A:=s
theorem zcx {A:Prop} (s:A:=by exact h B K _ w' _ hm bA ((hF.mono (cW.refl K) (jy (by rw [hI.out _ (aH _)];trivial))).put d (.loc _ 0 b bC))):A:=s
theorem zcy {A:Prop} (s:A:=by obtain ⟨s2,c4⟩:=a;simp only at e1 e2 e3 g2 b2;refine I ?_;refine V [0] h3 ?_;refine V [0] g2 ?_;exact zai):A:=s
theorem zcz {A B:Prop} (h:B) (s:PLift B->A:=by intro hQ;refine aM (.q 0 (.q 1 (.q 3 (.q 4 (.a 2 (.a 5 (ay 6 4 (.a 10 (ay 11 3 .nil))))))))) ?_;refine ak ?_;refine kP [] D ?_;refine ak ?_;refine kP [] X ?_;exact hQ.1):A:=s ⟨h⟩
theorem zcA {A B:Prop} (h:B) (s:PLift B->A:=by intro hQ;refine I ?_;refine aM (ay 0 3 (.q 5 (.a 3 (.a 4 (.a 6 (.q 7 .nil)))))) ?_;refine ak ?_;refine aB [] xB ?_;refine aB [] TU ?_;refine aB [0,1,2] hW ?_;exact hQ.1):A:=s ⟨h⟩
theorem zcB {A:Prop} (s:A:=by refine I ?_;exact ⟨rfl,rfl,_,_,(Wk.cut (n:=1) (aX _) rfl).trans (Wk.aJ ar),rfl,rfl,by rw [bL,ba,hb];rfl⟩):A:=s
theorem zcC {A:Prop} (s:A:=by obtain ⟨g,rfl,hg⟩:=up hg;rw [mE];simp only [eA,hp.code,vw,if_true,ab C1,ab O6,ab hu,ae hb];rw [D g aq]):A:=s
theorem zcD {A:Prop} (s:A:=by refine ai func181 ntmps181 ?_;refine V [] oQ ?_;refine V [] kW ?_;refine V [] Uh ?_;refine og ?_;exact zak):A:=s
theorem zcE {A:Prop} (s:A:=by refine GL.wk (Wk.Be (i:=2) (o:=5) rfl rfl rfl rfl hn) ?_;refine cY ?_;refine V [0] (cJ p [125] hp aC) ?_;exact fx):A:=s
theorem zcF {A B:Prop} (h:B) (s:PLift B->A:=by intro hQ;refine zal ?_;refine V [0] Um ?_;refine aM (ay 0 6 (.a 6 (.a 7 (.a 8 (.q 9 (.q 10 (.a 11 .nil))))))) ?_;refine ak ?_;refine aB [0] eQ ?_;refine zau ?_;exact hQ.1):A:=s ⟨h⟩
theorem zcG {A B:Prop} (h:B) (s:PLift B->A:=by intro hQ;refine fv ?_;refine I ?_;exact hQ.1):A:=s ⟨h⟩
theorem zcH {A B:Prop} (h:B) (s:PLift B->A:=by intro hQ;refine GL.M4 rfl rfl rfl rfl rfl rfl rfl ?_;refine zaS ?_;exact hQ.1):A:=s ⟨h⟩
theorem zcI {A:Prop} (s:A:=by unfold ia at h;rw [pG] at h;obtain ⟨l,hl,hc⟩:=h;exact List.mem_flatten.2 ⟨l,hl,by simpa using hc⟩):A:=s
theorem zcJ {A:Prop} (s:A:=by rw [iY,sr];have:=hx.2;have:=xE.2 hc;omega):A:=s
theorem zcK {A:Prop} (s:A:=by have fD:=dq.trans (bG (dq.ok hd) (s:=[61]) ao);obtain ⟨t,q,e⟩:=xP (fD.ok hd) (d+1);rw [e];exact zaD):A:=s
theorem zcL {A B:Prop} (h:B) (s:PLift B->A:=by intro hQ;refine aM (ay 0 10 (.a 10 (.a 11 .nil))) ?_;refine bq ?_;exact hQ.1):A:=s ⟨h⟩
theorem zcM {A:Prop} (s:A:=by rw [ae (.inr (by simpa using hz))] at he;subst he;refine zaY ?_;refine I ?_;refine V [0] KA ?_;exact jP):A:=s
theorem zcN {A B:Prop} (h:B) (s:PLift B->A:=by intro hQ;rw [rs,ab aq];simp only;rw [ab (cl _ (by simp)),ab (fun h=>h.elim (cl _ (by simp)) (cl _ (by simp))),ab (cl _ (by simp))];simp only [simple];exact hQ.1):A:=s ⟨h⟩
theorem zcO {A:Prop} (s:A:=by obtain ⟨g,rfl,hg⟩:=up hg;rw [mE];simp only [eA,hp.code,vw,if_true,ab C1,ab O6,ae hu];rw [D g aq]):A:=s
theorem zcP {A:Prop} (s:A:=by exact (h.ob i z hi).ext (S:=gL) (Ext.refl w) (fun _ _ h=>h) (cW.refl K) hold (bO G) (fun _ _ _ h=>h)):A:=s
theorem zcQ {A:Prop} (s:A:=by rw [ab (by rintro (h | h);(· cases h);(· simp at hz;omega))] at he;subst he;refine zaY ?_;exact jd):A:=s
theorem zcR {A:Prop} (s:A:=by refine V [0] jo ?_;exact al):A:=s
theorem zcS {A B:Prop} (h:B) (s:PLift B->A:=by intro hQ;refine I ?_;refine aM (ay 0 9 .nil) ?_;exact hQ.1):A:=s ⟨h⟩
theorem zcT {A:Prop} (s:A:=by exact ⟨K,β,fr,Γ,hI,hF,hq⟩):A:=s
theorem zcU {A:Prop} (s:A:=by have:=Bj p i x ({ kind:=x.kind,at_:=x.at_,n:=x.n,s:=sg,kids:=x.kids }:Nd) hx;simp only at *;omega):A:=s
theorem zcV {A B:Prop} (h:B) (s:PLift B->A:=by intro hQ;refine aM (ay 0 24 .nil) ?_;refine bq ?_;refine V [0] (ky p hp) ?_;refine V [0] (kL p 7 p.place) ?_;refine b6 ?_;rw [RS.name,ae hc,ht];exact hQ.1):A:=s ⟨h⟩
theorem zcW {A:Prop} (s:A:=by obtain ⟨g,rfl,hg⟩:=nZ hg;rw [iE,gQ,ae hp.code,ab wA,ab (by rw [ht];exact C1),ae bH,D g aq]):A:=s
theorem zcX {A:Prop} (s:A:=by refine V [] hC ?_;exact al):A:=s
theorem zcY {A:Prop} (s:A:=by rename_i x hx;exact ⟨fun t r h=>(by cases h),fun h h0=>X aq (hx.trans (by cases h0;rfl))⟩):A:=s
theorem zcZ {A:Prop} (s:A:=by simp only;omega):A:=s
theorem zc0 {A:Prop} (s:A:=by exact ⟨rfl,rfl,_,_,(Wk.cut (n:=0) (aH _) rfl).trans (Wk.aJ ar),rfl,rfl,by simpa using hf⟩):A:=s
theorem zc1 {A:Prop} (s:A:=by obtain ⟨l',r'⟩:=y;rw [he] at h4;obtain ⟨rfl,h4⟩:=h4;rw [c8];exact ⟨rfl,X.tr h4⟩):A:=s
theorem zc2 {A:Prop} (s:A:=by exact .inl ⟨rfl,rfl,rfl,by simp,fun k hk _=>Below.heap_alloc _ _ _ (by simpa using hk)⟩):A:=s
theorem zc3 {A:Prop} (s:A:=by rw [all_eq_false];exact ⟨x,br hx,by simp [hb]⟩):A:=s
theorem zc4 {A B:Prop} (h:B) (s:PLift B->A:=by intro hQ;refine GL.q (YG.Yq rfl rfl) ?_;refine cM ?_;refine GL.q (YG.WA rfl rfl) ?_;refine zaS ?_;refine aM (ay 0 13 .nil) ?_;refine ak ?_;exact hQ.1):A:=s ⟨h⟩
theorem zc5 {A:Prop} (s:A:=by obtain ⟨g,rfl,hg⟩:=up hg;rw [mS] at this |-;rw [sQ hf.err] at this;rw [XA];exact this):A:=s
theorem zc6 {A:Prop} (s:A:=by rw [S.bF,S.tree,wt];exact zaK):A:=s
theorem zc7 {A:Prop} (s:A:=by exact wK f _ _ _ _ (fun k d o e=>by cases e) h h3):A:=s
theorem zc8 {A:Prop} (s:A:=by exact ⟨rfl,rfl,_,_,Wk.aJ ar,by omega,rfl,rfl⟩):A:=s
theorem zc9 {A:Prop} (s:A:=by rw [S.tree,zT,jL,jL,jL,zT];exact ⟨fun _=>rfl,E.z c,⟨fun _=>rfl,S.zs b⟩,trivial⟩):A:=s
theorem zda {A:Prop} (s:A:=by have hl:=oW hF h3;simp only [vF,gv,D,X,hl,hv,Bool.and_self];exact ⟨trivial,trivial⟩):A:=s
theorem zdb {A:Prop} (s:A:=by refine za2 ?_;exact ⟨rfl,rfl,_,_,Wk.aJ ar,vd,vh,_,_,_,rfl,rfl,by simp [lT],bL.symm⟩):A:=s
theorem zdc {A:Prop} (s:A:=by refine zcG ?_;exact ⟨rfl,rfl,_,_,Wk.aJ ar,_,_,rfl,rfl,by simp [hm],bL.symm,by omega⟩):A:=s
theorem zdd {A:Prop} (s:A:=by refine za1 ?_;refine n8 ?_;exact rl (n:=1) rfl dO rfl (dP rfl) rfl rfl ⟨_,rfl,rfl⟩):A:=s
theorem zde {A:Prop} (s:A:=by rw [this];exact ⟨fun hb=>(by cases hb),fun _=>⟨_,uB fun f=>by rw [rs,ae aq]⟩⟩):A:=s
theorem zdf {A:Prop} (s:A:=by exact ⟨by simp;omega,by simp;omega,by simp;omega,fun x hx=>by have:=d x hx;omega⟩):A:=s
theorem zdg {A:Prop} (s:A:=by exact ⟨fun h=>absurd h (by simp),fun h=>absurd h (by simp),E.wf a,E.wf b,trivial⟩):A:=s
theorem zdh {A B:Prop} (h:B) (s:PLift B->A:=by intro hQ;refine V [0] (cJ _ [61] dq aC) ?_;refine V [0] (Aq (d+1) _ e p2 fD G he) ?_;refine V [0] (cJ p2 [59] eB aC) ?_;refine zal ?_;exact hQ.1):A:=s ⟨h⟩
theorem zdi {A:Prop} (s:A:=by rw [how];refine ai func251 ntmps251 ?_;exact al):A:=s
theorem zdj {A:Prop} (s:A:=by refine zaW ?_;refine ak ?_;refine bV [] hG ?_;refine I ?_;refine V [0] TL ?_;exact jP):A:=s
theorem zdk {A:Prop} (s:A:=by rw [X];simp only;rw [h3];exact zbS):A:=s
theorem zdl {A:Prop} (s:A:=by obtain ⟨g,rfl,nu,gR⟩:=qX hg;rw [iS,gQ,ae hp.code,ab uG,ab qv,ab vz,ae mQ,D g gR]):A:=s
theorem zdm {A B:Prop} (h:B) (s:PLift B->A:=by intro hQ;refine I ?_;refine n8 ?_;exact hQ.1):A:=s ⟨h⟩
theorem zdn {A B:Prop} (h:B) (s:PLift B->A:=by intro hQ;unfold cC;refine I ?_;refine aM (ay 0 6 (.a 6 .nil)) ?_;refine ak ?_;exact hQ.1):A:=s ⟨h⟩
theorem zdo {A:Prop} (s:A:=by refine dN ?_;exact ⟨rfl,h,rfl⟩):A:=s
theorem zdp {A:Prop} (s:A:=by refine dF ?_;exact ⟨_,_,Wk.aJ ar,q,p,_,_,_,_,ns,rfl,rfl,⟨Hg,Ha,Hf,Hn⟩,tq,zk⟩):A:=s
theorem zdq {A:Prop} (s:A:=by simp only [stay,mem_filter] at hp |-;exact (hs p hp.1).imp (fun h=>⟨h,hp.2⟩) id):A:=s
theorem zdr {A:Prop} (s:A:=by refine aM (ay 0 6 (.a 6 (ay 7 3 .nil))) ?_;refine ak ?_;refine aB [] hj ?_;exact aw):A:=s
theorem zds {A:Prop} (s:A:=by rw [xR,pS];refine Bg ?_ t.n;simp only [if_true];exact xS p t.kids _ (SS.rD _ ao _)):A:=s
theorem zdt {A B:Prop} (h:B) (s:PLift B->A:=by intro hQ;refine aM (.q 1 (.q 2 (.a 0 (.a 3 .nil)))) ?_;refine ak ?_;refine aB [] yM ?_;refine aB [] zZ ?_;refine I ?_;refine rz ?_;exact hQ.1):A:=s ⟨h⟩
theorem zdu {A B:Prop} (h:B) (s:PLift B->A:=by intro hQ;refine lk dd dZ ?_;refine bq ?_;exact hQ.1):A:=s ⟨h⟩
theorem zdv {A:Prop} (s:A:=by refine I ?_;exact ⟨_,_,Wk.aJ ar,_,l,rfl,by rw [jH];rfl,.inl ⟨rfl,rfl,rfl⟩⟩):A:=s
theorem zdw {A:Prop} (s:A:=by exact this.trans (X _ _ _ _ _ (this.ok hp) h)):A:=s
theorem zdx {A:Prop} (s:A:=by have:cs=[]:=gx h.1.symm;subst this;simp at ho):A:=s
theorem zdy {A:Prop} (s:A:=by refine dF ?_;exact aw):A:=s
theorem zdz {A:Prop} (s:A:=by simp only [List.map_cons,flatten_cons,ih];rfl):A:=s
theorem zdA {A:Prop} (s:A:=by refine V [0] eA ?_;refine V [] Jc ?_;exact al):A:=s
theorem zdB {A:Prop} (s:A:=by rw [ab hd];exact ⟨fun c' h=>(by rw [hc] at h;cases h;simpa using hd),aH _,D⟩):A:=s
theorem zdC {A:Prop} (s:A:=by refine I ?_;have hc:=fV (.mk ⟨9,a,0,s,ks⟩ l) 1 hl;refine V [] hc ?_;exact al):A:=s
theorem zdD {A:Prop} (s:A:=by rw [xF] at ba;exact ⟨rfl,ba⟩):A:=s
theorem zdE {A B:Prop} (h:B) (s:PLift B->A:=by intro hQ;refine ak ?_;refine zau ?_;exact hQ.1):A:=s ⟨h⟩
theorem zdF {A:Prop} (s:A:=by refine dF ?_;exact ⟨_,_,Wk.aJ ar,a,z,n,rows,acc,rfl,rfl,hn,bx,by omega,hB⟩):A:=s
theorem zdG {A:Prop} (s:A:=by simp only [S.ok,aI] at h;rw [S.tree,mb,List.map_cons,lg a h.2,S.bF];simp [zy]):A:=s
theorem zdH {A:Prop} (s:A:=by obtain ⟨k1,k2⟩:=key es D;exact ⟨es++[a],k1,by rw [Kk,X,k2,aZ,aZ,h4]⟩):A:=s
theorem zdI {A:Prop} (s:A:=by generalize tok p 0=tk at *;refine I ?_;refine zaR ?_;refine zal ?_;exact zct):A:=s
theorem zdJ {A B:Prop} (h:B) (s:PLift B->A:=by intro hQ;refine I ?_;refine V [] kW ?_;refine V [] ek ?_;exact hQ.1):A:=s ⟨h⟩
theorem zdK {A B:Prop} (h:B) (s:PLift B->A:=by intro hQ;refine I ?_;refine V [] Pm ?_;refine V [] pS ?_;exact hQ.1):A:=s ⟨h⟩
theorem zdL {A:Prop} (s:A:=by rw [hn] at h;cases h):A:=s
theorem zdM {A:Prop} (s:A:=by obtain ⟨D,_,_⟩:=pd h;rw [D];simp only;rw [ab (by rw [hp c rfl];decide)]):A:=s
theorem zdN {A:Prop} (s:A:=by simp only [xM,lf,aD] at *;omega):A:=s
theorem zdO {A:Prop} (s:A:=by exact ⟨l,rfl,hq⟩):A:=s
theorem zdQ {A:Prop} (s:A:=by refine ai func131 ntmps131 ?_;refine V [] hL ?_;refine V [] hG ?_;exact al):A:=s
theorem zdR {A:Prop} (s:A:=by generalize c.fail 23 n.at_=c1 at *;refine ai func234 ntmps234 ?_;exact zcR):A:=s
theorem zdS {A B:Prop} (h:B) (s:PLift B->A:=by intro hQ;rw [rs,ab aq];simp only;rw [ab (kg D ao),ab (fun h=>h.elim (kg D ao) (kg D ao)),ab (kg D ao)];simp only [simple];exact hQ.1):A:=s ⟨h⟩
theorem zdT {A B:Prop} (h:B) (s:PLift B->A:=by intro hQ;refine I ?_;refine V [] hs ?_;refine V [] HQ ?_;refine V [] nP ?_;refine V [2] eQ ?_;refine aM (ay 0 17 .nil) ?_;exact hQ.1):A:=s ⟨h⟩
theorem zdU {A:Prop} (s:A:=by exact (dk hs ao).1):A:=s
theorem zdV {A:Prop} (s:A:=by simp only [S.ok] at h;rw [S.tree,mb,List.map_cons,lg a h,S.bF];simp [zy]):A:=s
theorem zdW {A:Prop} (s:A:=by refine I ?_;exact ⟨rfl,rfl,_,_,Wk.aJ ar,rfl,rfl,by rw [iT,hc,X];rfl⟩):A:=s
theorem zdX {A:Prop} (s:A:=by simp [results,hr,yF,asAddr,Dc]):A:=s
theorem zdY {A:Prop} (s:A:=by rw [ab (by rintro (h | h);(· cases h);(· simp at hz;omega))];exact za3):A:=s
theorem zd1 {A B:Prop} (h:B) (s:PLift B->A:=by intro hQ;rw [show (mx st.trees).length+[[qT t]].length=(st.trees++[t]).length by simp [pf],<-xW st.trees t];refine bq ?_;exact hQ.1):A:=s ⟨h⟩
theorem zd2 {A:Prop} (s:A:=by refine nr ?_;exact zaT):A:=s
theorem zd3 {A B:Prop} (h:B) (s:PLift B->A:=by intro hQ;refine V [0] ht ?_;exact hQ.1):A:=s ⟨h⟩
theorem zd4 {A:Prop} (s:A:=by rw [E.tree,jj];exact ⟨fun h=>absurd h (by simp),fun _=>rfl,trivial⟩):A:=s
theorem zd5 {A:Prop} (s:A:=by obtain ⟨r,lz,et⟩:=List.mem_flatten.1 (br hg);exact (h4 r lz).2 g et):A:=s
theorem zd6 {A:Prop} (s:A:=by refine GL.wk (Wk.lr (t:=108) rfl rfl rfl rfl) ?_;refine cY ?_;exact zct):A:=s
theorem zd7 {A:Prop} (s:A:=by obtain ⟨g,rfl,hg⟩:=up hg;rw [mS,eA];rw [ab KT,ab Hw,ab KQ,ae mQ,D]):A:=s
theorem zd8 {A:Prop} (s:A:=by exact ⟨by omega,by omega,by omega,fun x hx=>by have:=d x hx;omega⟩):A:=s
theorem zd9 {A:Prop} (s:A:=by unfold wC at hz;simp only [aI,beq_iff_eq] at hz;rw [hk,eC] at hz;omega):A:=s
theorem zea {A:Prop} (s:A:=by exact ⟨0,⟨_,_,Wk.aJ ar,rfl,rfl,by omega,tI 0 rfl ht⟩,by omega⟩):A:=s
theorem zeb {A:Prop} (s:A:=by simp only [length_cons];omega):A:=s
theorem zec {A:Prop} (s:A:=by rw [X] at he;refine ai func124 ntmps124 ?_;refine V [] he ?_;exact al):A:=s
theorem zed {A B:Prop} (h:B) (s:PLift B->A:=by intro hQ;refine I ?_;refine V [] O9 ?_;refine GL.wk (Wk.lr (t:=59) rfl rfl rfl lU) ?_;refine za2 ?_;refine V [] hL ?_;exact hQ.1):A:=s ⟨h⟩
theorem zee {A:Prop} (s:A:=by exact fh.nodes x (br hx)):A:=s
theorem zef {A:Prop} (s:A:=by exact ⟨fun t r h=>(by cases h;exact aH _),fun _ h=>(by cases h)⟩):A:=s
theorem zeg {A:Prop} (s:A:=by obtain ⟨g,rfl⟩:∃ g',g=g'+1:=⟨g - 1,by omega⟩;exact hk g aq):A:=s
theorem zeh {A:Prop} (s:A:=by obtain ⟨pos,k1⟩:=hx.2 hb;exact ⟨pos,Ev.ixX hd D hl h3 mr k1⟩):A:=s
theorem zej {A B:Prop} (h:B) (s:PLift B->A:=by intro hQ;refine GL.wk (Wk.lr (t:=57) rfl rfl rfl rfl) ?_;refine cY ?_;exact hQ.1):A:=s ⟨h⟩
theorem zek {A:Prop} (s:A:=by exact h _ _ B K' _ w' _ hm ua ((hF.mono hK mR).put (some dt) (.v _))):A:=s
theorem zem {A:Prop} (s:A:=by rename_i b p' he;have:=hn.trans (D _ _ _ _ (hn.ok hp) he);exact zcr):A:=s
theorem zen {A:Prop} (s:A:=by rw [this];exact ⟨fun hb=>(by cases hb),fun _=>⟨_,Ev.Tx aq⟩⟩):A:=s
theorem zeo {A:Prop} (s:A:=by have:=hx.2;have:=ub.2;have:=ej.2;omega):A:=s
theorem zep {A:Prop} (s:A:=by refine ai func245 ntmps245 ?_;exact al):A:=s
theorem zeq {A:Prop} (s:A:=by refine ai func126 ntmps126 ?_;exact al):A:=s
theorem zer {A:Prop} (s:A:=by exact ⟨rfl,rfl,_,_,Wk.aJ ar,a2,c2,_,_,rfl,rfl,by simp [lU],rfl⟩):A:=s
theorem zdZ {A:Prop} (s:A:=by exact ⟨_,_,Wk.aJ ar,rfl,rfl,fun j hj=>absurd hj (Nat.not_lt_zero _)⟩):A:=s
theorem zei {A:Prop} (s:A:=by cases t' with | zero=>rfl | succ t'=>exact ih (fun e=>h (by rw [e]))):A:=s
theorem zes {A:Prop} (s:A:=by refine zb5 ?_;exact ⟨by show GV.v (.bool (_==_))=_;rw [Mx],rfl⟩):A:=s
theorem zet {A:Prop} (s:A:=by obtain ⟨t,D,X,h3⟩:=eh ao hc;exact ⟨t,D,X,h3.trans hc.symm⟩):A:=s
theorem zeu {A:Prop} (s:A:=by obtain ⟨g,rfl,hg⟩:=nZ hg;rw [iE,gQ,ae hp.code,ae wA,D g aq,ht]):A:=s
theorem zev {A:Prop} (s:A:=by obtain ⟨g,rfl,nu,gR⟩:=qX hg;rw [iS,gQ,ae hp.code,ae uG,D g gR]):A:=s
theorem zew {A:Prop} (s:A:=by refine I ?_;have hc:=vH s;rw [h0] at hc;refine V [] hc ?_;exact al):A:=s
theorem zex {A:Prop} (s:A:=by rw [mE,ab (by rw [ek];exact hb),ae (by rw [ek];exact hc),k1 g hg]):A:=s
theorem zey {A:Prop} (s:A:=by rw [he] at h;exact .inr ⟨x,rfl,h⟩):A:=s
theorem zez {A:Prop} (s:A:=by obtain ⟨g,rfl,hg⟩:=up hg;rw [mS,eA];rw [ae (by rw [ek,hv]),D]):A:=s
theorem zeA {A:Prop} (s:A:=by refine zbo ?_;rw [ab (by rw [hs];decide),ae hs,tail_cons,h0 f aq]):A:=s
theorem zeB {A:Prop} (s:A:=by have:=lO t;omega):A:=s
theorem zeC {A:Prop} (s:A:=by exact ⟨_,rfl⟩):A:=s
theorem zeD {A:Prop} (s:A:=by simp [E.tree,T.n] at h3):A:=s
theorem zeE {A:Prop} (s:A:=by obtain ⟨j,b⟩:=gd;simp only at hv hc;simp only [gG,hv,hc];simp):A:=s
theorem zeF {A:Prop} (s:A:=by rw [ae (by simpa using h3)];exact zab):A:=s
theorem zeG {A:Prop} (s:A:=by rw [ab (by simpa using h3)];exact zab):A:=s
theorem zeH {A:Prop} (s:A:=by exact ⟨_,_,rfl,rfl⟩):A:=s
theorem zeI {A B:Prop} (h:B) (s:PLift B->A:=by intro hQ;refine V [] hS ?_;refine aM (ay 0 8 (.a 8 (.a 9 .nil))) ?_;exact hQ.1):A:=s ⟨h⟩
theorem zeJ {A B:Prop} (h:B) (s:PLift B->A:=by intro hQ;refine V [0] hi ?_;refine V [0] dq ?_;exact hQ.1):A:=s ⟨h⟩
theorem zeK {A B:Prop} (h:B) (s:PLift B->A:=by intro hQ;refine zaO ?_;refine ak ?_;refine bV [0] ht ?_;refine bV [] vL ?_;refine bV [0] ht ?_;refine bV [] TT ?_;exact hQ.1):A:=s ⟨h⟩
theorem zeL {A:Prop} (s:A:=by exact ⟨aH _,h⟩):A:=s
theorem zeM {A:Prop} (s:A:=by rw [E.bF,E.full,E.tree,wt];exact zaK):A:=s
theorem zeN {A:Prop} (s:A:=by rw [iY,sr];have:=hx.2;omega):A:=s
theorem zeO {A:Prop} (s:A:=by rcases hk with hk | hk <;> rw [hk] at h <;> simp at h <;> omega):A:=s
theorem zeP {A:Prop} (s:A:=by refine za1 ?_;refine og ?_;exact zak):A:=s
theorem zeQ {A:Prop} (s:A:=by exact ⟨fun t r h=>(by cases h;simp),fun _ h=>(by cases h)⟩):A:=s
theorem zeR {A B:Prop} (h:B) (s:PLift B->A:=by intro hQ;rw [ae (by simpa using hv)];refine I ?_;refine aM (ay 0 7 (.a 7 (.a 8 (.a 9 .nil)))) ?_;refine zdE ?_;exact hQ.1):A:=s ⟨h⟩
theorem zeS {A:Prop} (s:A:=by split at h <;> cases h):A:=s
theorem zeT {A:Prop} (s:A:=by exact absurd h3 (by simp [one,T.n])):A:=s
theorem zeU {A B:Prop} (h:B) (s:PLift B->A:=by intro hQ;rw [mS,D];simp only;rw [h4 g hg];simp only;exact hQ.1):A:=s ⟨h⟩
theorem zeV {A:Prop} (s:A:=by simp only [fu,Bool.or_eq_false_iff,beq_eq_false_iff_ne];omega):A:=s
theorem zeW {A:Prop} (s:A:=by exact (Dn (b9.err X)).2.1 g _ _ _ (by unfold KF at hg;omega)):A:=s
theorem zeX {A:Prop} (s:A:=by rw [h3.2.2] at h4;exact .inr (.inl ⟨r,x,X,h4,h3.tr h5⟩)):A:=s
theorem zeY {A:Prop} (s:A:=by exact ⟨-1,rfl,fun h=>by omega⟩):A:=s
theorem zeZ {A:Prop} (s:A:=by have:=e1 c (by rw [he];exact hc);rw [wz] at this;cases this):A:=s
theorem ze0 {A:Prop} (s:A:=by exact ⟨a,by push_cast;omega,c⟩):A:=s
theorem ze1 {A:Prop} (s:A:=by refine ⟨?_,rfl⟩;show GV.v (.bool true)=_;rw [dz.2 this]):A:=s
theorem ze2 {A:Prop} (s:A:=by refine ak ?_;refine aB [] Xs ?_;refine aB [] BE ?_;exact aw):A:=s
theorem ze3 {A:Prop} (s:A:=by rw [tX ny qw (p:=fun x y=>x==y) lZ];refine zcS ?_;exact zbJ):A:=s
theorem ze4 {A B:Prop} (h:B) (s:PLift B->A:=by intro hQ;refine aM (ay 0 5 (.a 5 (ay 6 6 (.a 12 (.q 13 (.q 14 .nil)))))) ?_;refine ak ?_;refine aB [] hA ?_;exact hQ.1):A:=s ⟨h⟩
theorem ze5 {A B:Prop} (h:B) (s:PLift B->A:=by intro hQ;refine aM (ay 0 33 (.a 33 (.q 34 (.q 35 .nil)))) ?_;refine ak ?_;refine bV [0] (c9 p1 1 mO aC) ?_;exact hQ.1):A:=s ⟨h⟩
theorem ze6 {A:Prop} (s:A:=by exact lh hp _ _):A:=s
theorem ze7 {A:Prop} (s:A:=by rw [k1];simp only;rw [k2];exact .inl ⟨r',rfl,X.tr k3⟩):A:=s
theorem ze8 {A:Prop} (s:A:=by exact absurd X (Qq _ _ _ (fun k d out h=>by cases h) _ _)):A:=s
theorem ze9 {A:Prop} (s:A:=by refine ⟨pos,zL k3 fun f k3=>?_⟩;refine zaJ ?_;rw [k3]):A:=s
theorem zfa {A:Prop} (s:A:=by exact ⟨hl.1,by omega⟩):A:=s
theorem zfb {A:Prop} (s:A:=by unfold eM;rw [show (t.n.kind==4)=false by simp;omega];rfl):A:=s
theorem zfc {A:Prop} (s:A:=by rw [E.tree,zT,jL,jL];exact ⟨fun _=>rfl,E.z a,trivial⟩):A:=s
theorem zfd {A:Prop} (s:A:=by refine I ?_;refine V [] hM ?_;refine V [0] Xh ?_;exact iJ):A:=s
theorem zfe {A B:Prop} (h:B) (s:PLift B->A:=by intro hQ;refine V [0] hex ?_;refine n7 ?_;refine I ?_;refine zal ?_;refine V [0] pU ?_;refine V [0] eQ ?_;exact hQ.1):A:=s ⟨h⟩
theorem zff {A:Prop} (s:A:=by rw [dh,this,hR];simp [bW]):A:=s
theorem zfg {A:Prop} (s:A:=by refine zaS ?_;refine b6 ?_;exact ⟨s,c1,i1,hs,rfl,rfl⟩):A:=s
theorem zfh {A:Prop} (s:A:=by exact ⟨D,fun h=>X (by simp only [qE] at h |-;omega)⟩):A:=s
theorem zfi {A:Prop} (s:A:=by rw [X];simp only;rw [h3];exact ⟨by rw [c8],hn.tr h4⟩):A:=s
theorem zfj {A:Prop} (s:A:=by have:=h.w;unfold cQ wS at *;simp only [tt,b8] at *;omega):A:=s
theorem zfk {A:Prop} (s:A:=by rw [bO D] at hi;rw [bO X] at hj;exact h.dis i j b' hi hj):A:=s
theorem zfl {A:Prop} (s:A:=by refine I ?_;refine V [] rm ?_;refine V [] cl ?_;exact al):A:=s
theorem zfm {A:Prop} (s:A:=by refine ai func245 ntmps245 ?_;refine V [] hF ?_;exact al):A:=s
theorem zfn {A:Prop} (s:A:=by exact h4 k t' a' (by simpa using ht) (by simpa using ha)):A:=s
theorem zfo {A:Prop} (s:A:=by refine ai func198 ntmps198 ?_;refine V [] h0 ?_;exact al):A:=s
theorem zfp {A:Prop} (s:A:=by rw [<-he,show N+1 - i=(N+1 - (i+1))+1 by omega,G0 hx,iT]):A:=s
theorem zfq {A:Prop} (s:A:=by repeat (first | exact da.n | (apply da.w;(· decide +kernel)) | (apply da.y;(· first | (apply YQ.t;(· exact rfl);(· exact rfl);(· (first | exact YG.jb 7 rfl rfl rfl ((eo _ _ _ _).trans iR) hi | (first | exact fZ | (apply K.idx;first | exact YG.idxV rfl rfl rfl az G | exact YG.aQ 0 rfl rfl rfl aE | exact YG.aQ 1 rfl rfl rfl aE | exact YG.aQ 2 rfl rfl rfl aE | exact YG.aQ 3 rfl rfl rfl aE | exact YG.aQ 4 rfl rfl rfl aE | exact YG.aQ 5 rfl rfl rfl aE | exact YG.aQ 6 rfl rfl rfl aE) | exact gh | exact YG.fY 1 rfl rfl az az | exact YG.mv | exact YG.mq | (apply K.bin;first | exact YG.go rfl | exact YG.kB rfl rfl G | exact YG.jm rfl rfl | exact YG.jw rfl rfl | exact YG.oM rfl rfl | exact YG.o7 rfl rfl | exact YG.cat rfl rfl G | exact YG.cat rfl rfl (by simp only [aO,length_cons,length_nil];omega) | exact YG.addN rfl rfl G | exact YG.add rfl rfl G | exact YG.sub rfl rfl G | exact YG.mul rfl rfl G | exact YG.mg rfl rfl G | exact YG.quo rfl rfl G | exact YG.rem rfl rfl G | exact YG.iv rfl rfl) | exact fK | exact fJ | exact gM | exact fb | exact fp | (apply K.idx;first | exact YG.gZ rfl rfl aK | exact YG.cm rfl rfl aK rfl | exact YG.cm rfl rfl aK G | exact YG.kJ rfl rfl G) | exact YG.ext rfl rfl | exact YG.go rfl | (apply K.qc;first | exact YG.mf rfl rfl rfl G | exact YG.me rfl rfl G | exact YG.mc rfl rfl G | exact YG.gH 1 rfl rfl rfl az) | exact YG.jr rfl rfl aK | exact YG.idxSC rfl rfl aK rfl | exact ft | exact YG.build rfl | exact YG.neg rfl G | exact YG.jn rfl rfl | exact YG.nJ rfl (by first | rfl | exact IntWalk.i64_in _ G | exact IntWalk.u8_in _ G | assumption) | exact YG.str rfl az)))) | (apply YQ.t;(· exact rfl);(· apply rj;(· exact rfl);(· first | exact rfl | assumption));(· (first | exact YG.jb 7 rfl rfl rfl ((eo _ _ _ _).trans iR) hi | (first | exact fZ | (apply K.idx;first | exact YG.idxV rfl rfl rfl az G | exact YG.aQ 0 rfl rfl rfl aE | exact YG.aQ 1 rfl rfl rfl aE | exact YG.aQ 2 rfl rfl rfl aE | exact YG.aQ 3 rfl rfl rfl aE | exact YG.aQ 4 rfl rfl rfl aE | exact YG.aQ 5 rfl rfl rfl aE | exact YG.aQ 6 rfl rfl rfl aE) | exact gh | exact YG.fY 1 rfl rfl az az | exact YG.mv | exact YG.mq | (apply K.bin;first | exact YG.go rfl | exact YG.kB rfl rfl G | exact YG.jm rfl rfl | exact YG.jw rfl rfl | exact YG.oM rfl rfl | exact YG.o7 rfl rfl | exact YG.cat rfl rfl G | exact YG.cat rfl rfl (by simp only [aO,length_cons,length_nil];omega) | exact YG.addN rfl rfl G | exact YG.add rfl rfl G | exact YG.sub rfl rfl G | exact YG.mul rfl rfl G | exact YG.mg rfl rfl G | exact YG.quo rfl rfl G | exact YG.rem rfl rfl G | exact YG.iv rfl rfl) | exact fK | exact fJ | exact gM | exact fb | exact fp | (apply K.idx;first | exact YG.gZ rfl rfl aK | exact YG.cm rfl rfl aK rfl | exact YG.cm rfl rfl aK G | exact YG.kJ rfl rfl G) | exact YG.ext rfl rfl | exact YG.go rfl | (apply K.qc;first | exact YG.mf rfl rfl rfl G | exact YG.me rfl rfl G | exact YG.mc rfl rfl G | exact YG.gH 1 rfl rfl rfl az) | exact YG.jr rfl rfl aK | exact YG.idxSC rfl rfl aK rfl | exact ft | exact YG.build rfl | exact YG.neg rfl G | exact YG.jn rfl rfl | exact YG.nJ rfl (by first | rfl | exact IntWalk.i64_in _ G | exact IntWalk.u8_in _ G | assumption) | exact YG.str rfl az)))) | (apply YQ.f;(· exact rfl);(· apply r6;(· exact rfl);(· first | exact rfl | assumption))))))):A:=s
theorem zfr {A:Prop} (s:A:=by repeat (first | exact da.n | (apply da.w;(· decide +kernel)) | (apply da.y;(· first | (apply YQ.t;(· exact rfl);(· exact rfl);(· (first | exact YG.jb 7 rfl rfl rfl iR hi | (first | exact fZ | (apply K.idx;first | exact YG.idxV rfl rfl rfl az G | exact YG.aQ 0 rfl rfl rfl aE | exact YG.aQ 1 rfl rfl rfl aE | exact YG.aQ 2 rfl rfl rfl aE | exact YG.aQ 3 rfl rfl rfl aE | exact YG.aQ 4 rfl rfl rfl aE | exact YG.aQ 5 rfl rfl rfl aE | exact YG.aQ 6 rfl rfl rfl aE) | exact gh | exact YG.fY 1 rfl rfl az az | exact YG.mv | exact YG.mq | (apply K.bin;first | exact YG.go rfl | exact YG.kB rfl rfl G | exact YG.jm rfl rfl | exact YG.jw rfl rfl | exact YG.oM rfl rfl | exact YG.o7 rfl rfl | exact YG.cat rfl rfl G | exact YG.cat rfl rfl (by simp only [aO,length_cons,length_nil];omega) | exact YG.addN rfl rfl G | exact YG.add rfl rfl G | exact YG.sub rfl rfl G | exact YG.mul rfl rfl G | exact YG.mg rfl rfl G | exact YG.quo rfl rfl G | exact YG.rem rfl rfl G | exact YG.iv rfl rfl) | exact fK | exact fJ | exact gM | exact fb | exact fp | (apply K.idx;first | exact YG.gZ rfl rfl aK | exact YG.cm rfl rfl aK rfl | exact YG.cm rfl rfl aK G | exact YG.kJ rfl rfl G) | exact YG.ext rfl rfl | exact YG.go rfl | (apply K.qc;first | exact YG.mf rfl rfl rfl G | exact YG.me rfl rfl G | exact YG.mc rfl rfl G | exact YG.gH 1 rfl rfl rfl az) | exact YG.jr rfl rfl aK | exact YG.idxSC rfl rfl aK rfl | exact ft | exact YG.build rfl | exact YG.neg rfl G | exact YG.jn rfl rfl | exact YG.nJ rfl (by first | rfl | exact IntWalk.i64_in _ G | exact IntWalk.u8_in _ G | assumption) | exact YG.str rfl az)))) | (apply YQ.t;(· exact rfl);(· apply rj;(· exact rfl);(· first | exact rfl | assumption));(· (first | exact YG.jb 7 rfl rfl rfl iR hi | (first | exact fZ | (apply K.idx;first | exact YG.idxV rfl rfl rfl az G | exact YG.aQ 0 rfl rfl rfl aE | exact YG.aQ 1 rfl rfl rfl aE | exact YG.aQ 2 rfl rfl rfl aE | exact YG.aQ 3 rfl rfl rfl aE | exact YG.aQ 4 rfl rfl rfl aE | exact YG.aQ 5 rfl rfl rfl aE | exact YG.aQ 6 rfl rfl rfl aE) | exact gh | exact YG.fY 1 rfl rfl az az | exact YG.mv | exact YG.mq | (apply K.bin;first | exact YG.go rfl | exact YG.kB rfl rfl G | exact YG.jm rfl rfl | exact YG.jw rfl rfl | exact YG.oM rfl rfl | exact YG.o7 rfl rfl | exact YG.cat rfl rfl G | exact YG.cat rfl rfl (by simp only [aO,length_cons,length_nil];omega) | exact YG.addN rfl rfl G | exact YG.add rfl rfl G | exact YG.sub rfl rfl G | exact YG.mul rfl rfl G | exact YG.mg rfl rfl G | exact YG.quo rfl rfl G | exact YG.rem rfl rfl G | exact YG.iv rfl rfl) | exact fK | exact fJ | exact gM | exact fb | exact fp | (apply K.idx;first | exact YG.gZ rfl rfl aK | exact YG.cm rfl rfl aK rfl | exact YG.cm rfl rfl aK G | exact YG.kJ rfl rfl G) | exact YG.ext rfl rfl | exact YG.go rfl | (apply K.qc;first | exact YG.mf rfl rfl rfl G | exact YG.me rfl rfl G | exact YG.mc rfl rfl G | exact YG.gH 1 rfl rfl rfl az) | exact YG.jr rfl rfl aK | exact YG.idxSC rfl rfl aK rfl | exact ft | exact YG.build rfl | exact YG.neg rfl G | exact YG.jn rfl rfl | exact YG.nJ rfl (by first | rfl | exact IntWalk.i64_in _ G | exact IntWalk.u8_in _ G | assumption) | exact YG.str rfl az)))) | (apply YQ.f;(· exact rfl);(· apply r6;(· exact rfl);(· first | exact rfl | assumption))))))):A:=s
theorem zfs {A:Prop} (s:A:=by repeat (first | exact da.n | (apply da.w;(· decide +kernel)) | (apply da.y;(· first | (apply YQ.t;(· exact rfl);(· exact rfl);(· (first | exact fZ | (apply K.idx;first | exact YG.idxV rfl rfl rfl az G | exact YG.aQ 0 rfl rfl rfl aE | exact YG.aQ 1 rfl rfl rfl aE | exact YG.aQ 2 rfl rfl rfl aE | exact YG.aQ 3 rfl rfl rfl aE | exact YG.aQ 4 rfl rfl rfl aE | exact YG.aQ 5 rfl rfl rfl aE | exact YG.aQ 6 rfl rfl rfl aE) | exact gh | exact YG.fY 1 rfl rfl az az | exact YG.mv | exact YG.mq | (apply K.bin;first | exact YG.go rfl | exact YG.kB rfl rfl G | exact YG.jm rfl rfl | exact YG.jw rfl rfl | exact YG.oM rfl rfl | exact YG.o7 rfl rfl | exact YG.cat rfl rfl G | exact YG.cat rfl rfl (by simp only [aO,length_cons,length_nil];omega) | exact YG.addN rfl rfl G | exact YG.add rfl rfl G | exact YG.sub rfl rfl G | exact YG.mul rfl rfl G | exact YG.mg rfl rfl G | exact YG.quo rfl rfl G | exact YG.rem rfl rfl G | exact YG.iv rfl rfl) | exact fK | exact fJ | exact gM | exact fb | exact fp | (apply K.idx;first | exact YG.gZ rfl rfl aK | exact YG.cm rfl rfl aK rfl | exact YG.cm rfl rfl aK G | exact YG.kJ rfl rfl G) | exact YG.ext rfl rfl | exact YG.go rfl | (apply K.qc;first | exact YG.mf rfl rfl rfl G | exact YG.me rfl rfl G | exact YG.mc rfl rfl G | exact YG.gH 1 rfl rfl rfl az) | exact YG.jr rfl rfl aK | exact YG.idxSC rfl rfl aK rfl | exact ft | exact YG.build rfl | exact YG.neg rfl G | exact YG.jn rfl rfl | exact YG.nJ rfl (by first | rfl | exact IntWalk.i64_in _ G | exact IntWalk.u8_in _ G | assumption) | exact YG.str rfl az))) | (apply YQ.t;(· exact rfl);(· apply rj;(· exact rfl);(· first | exact rfl | assumption));(· (first | exact fZ | (apply K.idx;first | exact YG.idxV rfl rfl rfl az G | exact YG.aQ 0 rfl rfl rfl aE | exact YG.aQ 1 rfl rfl rfl aE | exact YG.aQ 2 rfl rfl rfl aE | exact YG.aQ 3 rfl rfl rfl aE | exact YG.aQ 4 rfl rfl rfl aE | exact YG.aQ 5 rfl rfl rfl aE | exact YG.aQ 6 rfl rfl rfl aE) | exact gh | exact YG.fY 1 rfl rfl az az | exact YG.mv | exact YG.mq | (apply K.bin;first | exact YG.go rfl | exact YG.kB rfl rfl G | exact YG.jm rfl rfl | exact YG.jw rfl rfl | exact YG.oM rfl rfl | exact YG.o7 rfl rfl | exact YG.cat rfl rfl G | exact YG.cat rfl rfl (by simp only [aO,length_cons,length_nil];omega) | exact YG.addN rfl rfl G | exact YG.add rfl rfl G | exact YG.sub rfl rfl G | exact YG.mul rfl rfl G | exact YG.mg rfl rfl G | exact YG.quo rfl rfl G | exact YG.rem rfl rfl G | exact YG.iv rfl rfl) | exact fK | exact fJ | exact gM | exact fb | exact fp | (apply K.idx;first | exact YG.gZ rfl rfl aK | exact YG.cm rfl rfl aK rfl | exact YG.cm rfl rfl aK G | exact YG.kJ rfl rfl G) | exact YG.ext rfl rfl | exact YG.go rfl | (apply K.qc;first | exact YG.mf rfl rfl rfl G | exact YG.me rfl rfl G | exact YG.mc rfl rfl G | exact YG.gH 1 rfl rfl rfl az) | exact YG.jr rfl rfl aK | exact YG.idxSC rfl rfl aK rfl | exact ft | exact YG.build rfl | exact YG.neg rfl G | exact YG.jn rfl rfl | exact YG.nJ rfl (by first | rfl | exact IntWalk.i64_in _ G | exact IntWalk.u8_in _ G | assumption) | exact YG.str rfl az))) | (apply YQ.f;(· exact rfl);(· apply r6;(· exact rfl);(· first | exact rfl | assumption))))))):A:=s
theorem zft {A:Prop} (s:A:=by show ¬ (decide (a < 0)=true);rw [ha];decide):A:=s
theorem zfu {A:Prop} (s:A:=by simp):A:=s
theorem zfv {A:Prop} (s:A:=by rw [he];intro h0;cases h0;exact hx rfl):A:=s
theorem zfw {A:Prop} (s:A:=by omega):A:=s
theorem zfx {A:Prop} (s:A:=by simpa using h):A:=s
theorem zfy {A:Prop} (s:A:=by rw [he];intro h0;cases h0):A:=s
theorem zfz {A:Prop} (s:A:=by simpa using hl):A:=s
theorem zfA {A:Prop} (s:A:=by cases h):A:=s
theorem zfB {A:Prop} (s:A:=by unfold lim;omega):A:=s
theorem zfC {A:Prop} (s:A:=by rw [h0]):A:=s
theorem zfD {A:Prop} (s:A:=by simpa using D):A:=s
theorem zfE {A:Prop} (s:A:=by simpa using jV h5 0 t rfl):A:=s
theorem zfF {A:Prop} (s:A:=by rw [List.mem_take_iff_getElem];exact ⟨j,by omega,rfl⟩):A:=s
theorem zfG {A:Prop} (s:A:=by simp only [lf,aD];omega):A:=s
theorem zfH {A:Prop} (s:A:=by simp only [uj] at h |-;omega):A:=s
theorem zfI {A:Prop} (s:A:=by simpa using hj):A:=s
theorem zfJ {A:Prop} (s:A:=by rw [bK,eG,ab (fun e=>bT e.symm)];exact hi):A:=s
theorem zfK {A:Prop} (s:A:=by rw [hs];decide):A:=s
theorem zfL {A:Prop} (s:A:=by simpa using hb):A:=s
theorem zfM {A:Prop} (s:A:=by simpa using X):A:=s
theorem zfN {A:Prop} (s:A:=by simpa using hc):A:=s
theorem zfO {A:Prop} (s:A:=by simpa using hk):A:=s
theorem zfP {A:Prop} (s:A:=by unfold fW at hf |-;rw [qy];exact hf):A:=s
theorem zfQ {A:Prop} (s:A:=by rw [gy];omega):A:=s
theorem zfR {A:Prop} (s:A:=by rw [sJ];omega):A:=s
theorem zfS {A:Prop} (s:A:=by simp;omega):A:=s
theorem zfT {A:Prop} (s:A:=by simp [execOp,resolve,invoke,builtin,sK,vD,pn]):A:=s
theorem zfU {A:Prop} (s:A:=by rw [cj];omega):A:=s
theorem zfV {A:Prop} (s:A:=by simp only [aO,length_cons,length_nil];omega):A:=s
theorem zfW {A:Prop} (s:A:=by unfold fN;omega):A:=s
theorem zfX {A:Prop} (s:A:=by rw [cl];trivial):A:=s
theorem zfY {A:Prop} (s:A:=by simpa using jV h5 1 u rfl):A:=s
theorem zfZ {A:Prop} (s:A:=by simp [Op.operands]):A:=s
theorem zf0 {A:Prop} (s:A:=by first | rfl | exact IntWalk.i64_in _ G | exact IntWalk.u8_in _ G | assumption):A:=s
theorem zf1 {A:Prop} (s:A:=by rw [ha];rfl):A:=s
theorem zf2 {A:Prop} (s:A:=by rw [ek];exact hb):A:=s
theorem zf3 {A:Prop} (s:A:=by rw [qy];exact hs):A:=s
theorem zf4 {A:Prop} (s:A:=by unfold KF at hg;omega):A:=s
theorem zf5 {A:Prop} (s:A:=by simpa using h0):A:=s
theorem zf6 {A:Prop} (s:A:=by rw [hb];decide):A:=s
theorem zf7 {A:Prop} (s:A:=by simpa using hn):A:=s
theorem zf8 {A:Prop} (s:A:=by simpa using hv):A:=s
theorem zf9 {A:Prop} (s:A:=by first | exact rfl | assumption):A:=s
theorem zga {A:Prop} (s:A:=by unfold lim cB;omega):A:=s
theorem zgb {A:Prop} (s:A:=by rw [length_cons] at hG;omega):A:=s
theorem zgc {A:Prop} (s:A:=by rw [dR];exact gi.1):A:=s
theorem zgd {A:Prop} (s:A:=by rw [h3.1,hk]):A:=s
theorem zge {A:Prop} (s:A:=by simp [hi]):A:=s
theorem zgf {A:Prop} (s:A:=by simp at dR;omega):A:=s
theorem zgg {A:Prop} (s:A:=by simp only;omega):A:=s
theorem zgh {A:Prop} (s:A:=by simp at hb):A:=s
theorem zgi {A:Prop} (s:A:=by rw [hv];decide):A:=s
theorem zgj {A:Prop} (s:A:=by rw [kG,iT,<-Nat.add_mul,dR];exact sA _ hroom):A:=s
theorem zgk {A:Prop} (s:A:=by rw [fA (aH _),qt];rfl):A:=s
theorem zgl {A:Prop} (s:A:=by simp only [qD,pP];rfl):A:=s
theorem zgm {A:Prop} (s:A:=by rw [bp,X];rfl):A:=s
theorem zgn {A:Prop} (s:A:=by rw [be];omega):A:=s
theorem zgo {A:Prop} (s:A:=by simp [rs]):A:=s
theorem zgp {A:Prop} (s:A:=by rw [ff jT];simp [jT]):A:=s
theorem zgq {A:Prop} (s:A:=by first | rfl | decide):A:=s
theorem zgr {A:Prop} (s:A:=by have:=mD ht;simp only [uj] at h |-;omega):A:=s
theorem zgs {A:Prop} (s:A:=by rw [show k+1+t=k+(t+1) by omega];exact h):A:=s
theorem zgt {A:Prop} (s:A:=by simpa [bK] using hj):A:=s
theorem zgu {A:Prop} (s:A:=by rw [C6,sJ];exact growslice_fits zfw zfw):A:=s
theorem zgv {A:Prop} (s:A:=by cases hb):A:=s
theorem zgw {A:Prop} (s:A:=by rw [Cn hp hu];rintro ⟨_,h⟩;cases h):A:=s
theorem zgx {A:Prop} (s:A:=by simpa [oz] using D):A:=s
theorem zgy {A:Prop} (s:A:=by rw [hm];exact aH _):A:=s
theorem zgz {A:Prop} (s:A:=by cases h;rfl):A:=s
theorem zgA {A:Prop} (s:A:=by have:=hn.fresh;have:=h.ext.size;omega):A:=s
theorem zgB {A:Prop} (s:A:=by have:=hb i;rw [h] at this;exact this):A:=s
end Go
namespace Go
theorem aq {A:Prop} (s:A:=by omega):A:=s
theorem ao {A:Prop} (s:A:=by decide):A:=s
theorem bu {α:Type _} {l:List α} {i:Nat} {a:α} (h:l[i]?=some a):∃ (h:i<l.length),l[i]=a:=List.getElem?_eq_some_iff.1 h
theorem eF {α:Type _} {a b:α} {l:List α} (h:a∈b::l):a=b\/a∈l:=List.mem_cons.1 h
theorem nt {α:Type _} {a:α} {s t:List α} (h:a∈s++t):a∈s\/a∈t:=List.mem_append.1 h
theorem AK {α:Type _} {a b:α} (h:a∈[b]):a=b:=List.mem_singleton.1 h
theorem oH {α:Type _} {l:List α} {i:Nat} (h:l[i]?=none):l.length<=i:=List.getElem?_eq_none_iff.1 h
theorem ab:type_of% @if_neg:=@if_neg
theorem ae:type_of% @if_pos:=@if_pos
theorem aI:type_of% @Bool.and_eq_true:=@Bool.and_eq_true
theorem br:type_of% @List.mem_of_getElem?:=@List.mem_of_getElem?
theorem aO:type_of% @List.length_append:=@List.length_append
theorem aH:type_of% @Nat.le_refl:=@Nat.le_refl
theorem bp:type_of% @List.getElem?_map:=@List.getElem?_map
theorem aX:type_of% @Nat.zero_le:=@Nat.zero_le
theorem ct:type_of% @List.getElem?_eq_getElem:=@List.getElem?_eq_getElem
theorem cj:type_of% @List.length_map:=@List.length_map
theorem gx:type_of% @List.eq_nil_of_length_eq_zero:=@List.eq_nil_of_length_eq_zero
theorem dh:type_of% @List.take_add_one:=@List.take_add_one
theorem dP:type_of% @Nat.le_of_ble_eq_true:=@Nat.le_of_ble_eq_true
theorem di:type_of% @List.take_length:=@List.take_length
theorem fP:type_of% @List.append_assoc:=@List.append_assoc
theorem ed:type_of% @Nat.zero_add:=@Nat.zero_add
theorem dm:type_of% @List.mem_cons_of_mem:=@List.mem_cons_of_mem
theorem fA:type_of% @List.getElem?_append_right:=@List.getElem?_append_right
theorem gy:type_of% @List.length_take:=@List.length_take
theorem ef:type_of% @List.append_nil:=@List.append_nil
theorem ff:type_of% @List.getElem?_append_left:=@List.getElem?_append_left
theorem eG:type_of% @List.getElem?_set:=@List.getElem?_set
theorem tP:type_of% @List.length_zipWith:=@List.length_zipWith
theorem iy:type_of% @Nat.add_assoc:=@Nat.add_assoc
theorem qt:type_of% @Nat.sub_self:=@Nat.sub_self
theorem oG:type_of% @List.drop_eq_getElem_cons:=@List.drop_eq_getElem_cons
theorem mn:type_of% @List.take_of_length_le:=@List.take_of_length_le
theorem jg:type_of% @Nat.le_trans:=@Nat.le_trans
theorem kA:type_of% @List.length_drop:=@List.length_drop
theorem DT:type_of% @Option.some.inj:=@Option.some.inj
theorem mo:type_of% @List.map_append:=@List.map_append
theorem dz:type_of% @List.contains_iff_mem:=@List.contains_iff_mem
theorem nD:type_of% @of_decide_eq_true:=@of_decide_eq_true
theorem gP:type_of% @List.all_eq_true:=@List.all_eq_true
theorem jR:type_of% @Int.toNat_natCast:=@Int.toNat_natCast
theorem sA:type_of% @Nat.mul_le_mul_right:=@Nat.mul_le_mul_right
theorem ze:type_of% @Nat.lt_of_lt_of_le:=@Nat.lt_of_lt_of_le
theorem wW:type_of% @mem_map:=@mem_map
theorem pG:type_of% @List.any_eq_true:=@List.any_eq_true
end Go
namespace Go.Xp
abbrev ah:=List UInt8
structure Tok where
 kind:Int
 n:Int
 s:ah
 at_:Int
structure Nd where
 kind:Int
 at_:Int
 n:Int
 s:ah
 kids:List Int
inductive T where
 | mk (n:Nd) (kids:List T)
def T.n:T->Nd | .mk n _=>n
def T.kids:T->List T | .mk _ k=>k
abbrev Er:=Int × Int
abbrev Rd (α:Type):=Except Er (α × List Tok)
def dE (t:Tok):ah:=if t.kind=3 then t.s else []
def sign (ts:List Tok) (k:Nat):ah:=match ts[k]? with | some t=>dE t | none=>[]
def place (e:Int):List Tok->Int
 | t::_=>t.at_
 | []=>e
def aL (e:Int) (s:ah) (ts:List Tok):Except Er (List Tok) :=
 if sign ts 0=s then .ok ts.tail else .error (7,place e ts)
def name (e:Int):List Tok->Rd ah
 | []=>.error (7,e)
 | t::r=>if t.kind=2 then (if t.s.length > 12 then .error (8,t.at_) else .ok (t.s,r)) else .error (7,t.at_)
def one (kind at_:Int) (s:ah) (kids:List T):T:=.mk ⟨kind,at_,0,s,[]⟩ kids
def levels:List (List ah):=[[[124,124]],[[38,38]],[[61,61],[33,61],[60],[62],[60,61],[62,61]],[[124]],[[94]],[[38]],[[60,60],[62,62]],[[43],[45]],[[42],[47],[37]]]
def bo:Er:=(-1,-1)
inductive wb where
 | expr (deep:Nat)
 | level (k deep:Nat)
 | loop (k deep:Nat) (out:T)
 | operand (deep:Nat)
def rd (e:Int):Nat->wb->List Tok->Rd T
 | 0,_,_=>.error bo
 | f+1,.expr deep,ts=>if deep > 60 then .error (9,place e ts) else rd e f (.level 0 (deep+1)) ts
 | f+1,.level k deep,ts =>
  if k=9 then rd e f (.operand deep) ts
  else match rd e f (.level (k+1) deep) ts with
   | .error x=>.error x
   | .ok (out,ts)=>rd e f (.loop k deep out) ts
 | f+1,.loop k deep out,ts =>
  match ts with
  | []=>.ok (out,ts)
  | t::r =>
   if t.kind=3/\t.s∈levels.getD k [] then
    match rd e f (.level (k+1) deep) r with
    | .error x=>.error x
    | .ok (b,r)=>rd e f (.loop k deep (one 6 t.at_ t.s [out,b])) r
   else .ok (out,ts)
 | f+1,.operand deep,ts =>
  if deep > 60 then .error (9,place e ts)
  else match ts with
  | []=>.error (7,e)
  | t::r =>
   if t.kind=3 then
    if t.s=[45]\/t.s=[33]\/t.s=[126] then
     match rd e f (.operand (deep+1)) r with
     | .error x=>.error x
     | .ok (a,r)=>.ok (one 5 t.at_ t.s [a],r)
    else if t.s=[40] then
     match rd e f (.expr (deep+1)) r with
     | .error x=>.error x
     | .ok (a,r)=>match aL e [41] r with
      | .error x=>.error x
      | .ok r=>.ok (a,r)
    else .error (7,t.at_)
   else if t.kind=1 then .ok (.mk ⟨1,t.at_,t.n,[],[]⟩ [],r)
   else match name e ts with
    | .error x=>.error x
    | .ok (s,r) =>
     if sign r 0=[91] then
      match rd e f (.expr (deep+1)) r.tail with
      | .error x=>.error x
      | .ok (a,r)=>match aL e [93] r with
       | .error x=>.error x
       | .ok r=>.ok (one 3 t.at_ s [a],r)
     else if sign r 0=[40] then
      match args e f (deep+1) [] r.tail with
      | .error x=>.error x
      | .ok (l,r)=>.ok (one 4 t.at_ s l,r)
     else .ok (one 2 t.at_ s [],r)
where
 args (e:Int):Nat->Nat->List T->List Tok->Rd (List T)
  | 0,_,_,_=>.error bo
  | f+1,deep,acc,ts =>
   if sign ts 0=[41] then .ok (acc,ts.tail)
   else match (if acc=[] then .ok ts else aL e [44] ts) with
    | .error x=>.error x
    | .ok ts=>match rd e f (.expr deep) ts with
     | .error x=>.error x
     | .ok (a,ts)=>args e f deep (acc++[a]) ts
def nB:ah:=[118,97,114]
def gE:ah:=[105,102]
def ju:ah:=[101,108,115,101]
def ig:ah:=[119,104,105,108,101]
def gU:ah:=[114,101,116,117,114,110]
def jc:ah:=[105,110,116]
def jv:ah:=[102,117,110,99]
inductive ur where
 | block (deep:Nat)
 | stmt (deep:Nat)
def oN (ts:List Tok):Nat:=20 * ts.length+20
def expr (e:Int) (deep:Nat) (ts:List Tok):Rd T:=rd e (oN ts) (.expr deep) ts
def inner (e:Int) (deep:Nat) (a b:ah) (ts:List Tok):Rd T :=
 match aL e a ts with
 | .error x=>.error x
 | .ok ts=>match expr e deep ts with
  | .error x=>.error x
  | .ok (t,ts)=>match aL e b ts with
   | .error x=>.error x
   | .ok ts=>.ok (t,ts)
def mV (e:Int) (deep:Nat) (ts:List Tok):Rd (ah × T) :=
 match name e ts with
 | .error x=>.error x
 | .ok (s,ts)=>match inner e deep [61] [59] ts with
  | .error x=>.error x
  | .ok (t,ts)=>.ok ((s,t),ts)
def simple (e:Int) (deep:Nat) (ts:List Tok):Rd T :=
 match ts with
 | []=>match expr e (deep+1) [] with
  | .error x=>.error x
  | .ok _=>.error (7,e)
 | t::_ =>
  if t.kind=2/\sign ts 1=[61] then
   match mV e (deep+1) ts with
   | .error x=>.error x
   | .ok ((s,a),ts)=>.ok (one 7 t.at_ s [a],ts)
  else match expr e (deep+1) ts with
   | .error x=>.error x
   | .ok (a,ts) =>
    if a.n.kind=3/\a.n.at_=t.at_/\sign ts 0=[61] then
     match inner e (deep+1) [61] [59] ts with
     | .error x=>.error x
     | .ok (v,ts)=>.ok (one 8 t.at_ a.n.s (a.kids.take 1++[v]),ts)
    else match aL e [59] ts with
     | .error x=>.error x
     | .ok ts=>.ok (one 12 t.at_ [] [a],ts)
def rs (e:Int):Nat->ur->List Tok->Rd T
 | 0,_,_=>.error bo
 | f+1,.block deep,ts =>
  if deep > 60 then .error (9,place e ts)
  else match aL e [123] ts with
   | .error x=>.error x
   | .ok r=>match body e f (deep+1) [] r with
    | .error x=>.error x
    | .ok (l,r)=>.ok (one 14 (place e ts) [] l,r)
 | f+1,.stmt deep,ts =>
  if deep > 60 then .error (9,place e ts)
  else
   let at_:=place e ts
   if sign ts 0=nB then
    match mV e (deep+1) ts.tail with
    | .error x=>.error x
    | .ok ((s,a),ts)=>.ok (one 13 at_ s [a],ts)
   else if sign ts 0=gE\/sign ts 0=ig then
    match inner e (deep+1) [40] [41] ts.tail with
    | .error x=>.error x
    | .ok (c,r)=>match rs e f (.block (deep+1)) r with
     | .error x=>.error x
     | .ok (b,r) =>
      if sign ts 0=gE then
       if sign r 0=ju then
        match rs e f (.block (deep+1)) r.tail with
        | .error x=>.error x
        | .ok (b2,r)=>.ok (one 9 at_ [] [c,b,b2],r)
       else .ok (one 9 at_ [] [c,b],r)
      else .ok (one 10 at_ [] [c,b],r)
   else if sign ts 0=gU then
    match expr e (deep+1) ts.tail with
    | .error x=>.error x
    | .ok (a,ts)=>match aL e [59] ts with
     | .error x=>.error x
     | .ok ts=>.ok (one 11 at_ [] [a],ts)
   else simple e deep ts
where
 body (e:Int):Nat->Nat->List T->List Tok->Rd (List T)
  | 0,_,_,_=>.error bo
  | f+1,deep,acc,ts =>
   if sign ts 0=[125] then .ok (acc,ts.tail)
   else match rs e f (.stmt deep) ts with
    | .error x=>.error x
    | .ok (a,ts)=>body e f deep (acc++[a]) ts
def block (e:Int) (deep:Nat) (ts:List Tok):Rd T:=rs e (oN ts) (.block deep) ts
structure Ar where
 name:ah
 size:Int
structure aP where
 name:ah
 params:List ah
 tree:T
end Go.Xp
namespace Go.Sp
open Go.Xp
structure RS where
 l:List Tok
 i:Nat
 e:Int
 code:Int
 at_:Int
def RS.ok (p:RS):Prop:=p.i<=p.l.length/\p.l.length<=1099511627776
def RS.place (p:RS):Int:=match p.l[p.i]? with | some t=>t.at_ | none=>p.e
def RS.fail (p:RS) (c a:Int):RS:=if p.code=0 then ⟨p.l,p.i,p.e,c,a⟩ else p
def RS.sign (p:RS) (k:Nat):ah:=if p.code=0 then (match p.l[p.i+k]? with | some t=>dE t | none=>[]) else []
def RS.next (p:RS):RS:=⟨p.l,p.i+1,p.e,p.code,p.at_⟩
def RS.aL (p:RS) (s:ah):RS:=if p.sign 0=s then p.next else p.fail 7 p.place
def RS.name (p:RS):ah × RS :=
 if p.code=0 then match p.l[p.i]? with
  | some t=>if t.kind=2 then (if t.s.length > 12 then ([],p.fail 8 t.at_) else (t.s,p.next)) else ([],p.fail 7 p.place)
  | none=>([],p.fail 7 p.place)
 else ([],p)
def RS.deep (p:RS) (d:Nat):RS:=if d > 60 then p.fail 9 p.place else p
def T.zero:T:=.mk ⟨0,0,0,[],[]⟩ []
inductive J where
 | expr (d:Nat)
 | level (k d:Nat)
 | loop (k d:Nat) (out:T)
 | operand (d:Nat)
 | named (at_:Int) (s:ah) (d:Nat)
mutual
def mE:Nat->J->RS->Option (T × RS)
 | 0,_,_=>none
 | f+1,.expr d,p=>mE f (.level 0 d) (p.deep d)
 | f+1,.level k d,p =>
  if k=9 then mE f (.operand (d+1)) p
  else match mE f (.level (k+1) d) p with
   | none=>none
   | some (out,p)=>mE f (.loop k d out) p
 | f+1,.loop k d out,p =>
  if p.code=0/\(levels.getD k []).contains (p.sign 0)=true then
   match p.l[p.i]? with
   | none=>none
   | some t=>match mE f (.level (k+1) d) p.next with
    | none=>none
    | some (b,p)=>mE f (.loop k d (one 6 t.at_ t.s [out,b])) p
  else some (out,p)
 | f+1,.operand d,p =>
  let p:=p.deep d
  if p.code=0 then match p.l[p.i]? with
   | none=>some (T.zero,p.fail 7 p.place)
   | some t =>
    if t.kind=1 then some (.mk ⟨1,t.at_,t.n,[],[]⟩ [],p.next)
    else if t.kind=2 then mE f (.named t.at_ p.name.1 d) p.name.2
    else if t.s=[45]\/t.s=[33]\/t.s=[126] then match mE f (.operand (d+1)) p.next with
     | none=>none
     | some (a,p)=>some (one 5 t.at_ t.s [a],p)
    else if t.s=[40] then match mE f (.expr (d+1)) p.next with
     | none=>none
     | some (a,p)=>some (a,p.aL [41])
    else some (T.zero,p.fail 7 t.at_)
  else some (T.zero,p.fail 7 p.place)
 | f+1,.named at_ s d,p =>
  if p.sign 0=[91] then match mE f (.expr (d+1)) p.next with
   | none=>none
   | some (a,p)=>some (one 3 at_ s [a],p.aL [93])
  else if p.sign 0=[40] then match mL f (d+1) p.next with
   | none=>none
   | some (l,p)=>some (one 4 at_ s l,p)
  else some (one 2 at_ s [],p)
def mL:Nat->Nat->RS->Option (List T × RS)
 | 0,_,_=>none
 | f+1,d,p=>if p.sign 0=[41] then some ([],p.aL [41]) else match mE f (.expr d) p with
  | none=>none
  | some (a,p)=>rK f d [a] p
def rK:Nat->Nat->List T->RS->Option (List T × RS)
 | 0,_,_,_=>none
 | f+1,d,acc,p=>if p.sign 0=[44] then match mE f (.expr d) p.next with
   | none=>none
   | some (a,p)=>rK f d (acc++[a]) p
  else some (acc,p.aL [41])
end
def RS.pW (p:RS):Bool:=match p.l[p.i]? with | some t=>decide (t.kind=2) | none=>false
def RS.ck (p:RS):Int:=if p.sign 0=gE then 9 else 10
inductive JS where
 | block (d:Nat)
 | stmt (d:Nat)
 | cond (at_:Int) (d:Nat)
def fe (p:RS):Nat:=100 * p.l.length+2000
def mX (d:Nat) (p:RS):Option (T × RS):=mE (fe p) (.expr d) p
mutual
def mS:Nat->JS->RS->Option (T × RS)
 | 0,_,_=>none
 | f+1,.block d,p =>
  let p:=p.deep d
  match mB f (d+1) [] (p.aL [123]) with
  | none=>none
  | some (l,q)=>some (one 14 p.place [] l,q.aL [125])
 | f+1,.stmt d,p =>
  let p:=p.deep d
  let at_:=p.place
  let s:=p.sign 0
  if s=nB then match mX (d+1) ((p.next.name.2).aL [61]) with
   | none=>none
   | some (e,q)=>some (one 13 at_ p.next.name.1 [e],q.aL [59])
  else if s=gE\/s=ig then mS f (.cond at_ d) p
  else if s=gU then match mX (d+1) p.next with
   | none=>none
   | some (e,q)=>some (one 11 at_ [] [e],q.aL [59])
  else if p.code=0/\p.pW=true/\p.sign 1=[61] then match mX (d+1) (p.name.2.aL [61]) with
   | none=>none
   | some (e,q)=>some (one 7 at_ p.name.1 [e],q.aL [59])
  else match mX (d+1) p with
   | none=>none
   | some (e,q) =>
    if e.n.kind=3/\e.n.at_=at_/\q.sign 0=[61] then match e.kids,mX (d+1) q.next with
     | a::_,some (v,q)=>some (one 8 at_ e.n.s [a,v],q.aL [59])
     | _,_=>none
    else some (one 12 at_ [] [e],q.aL [59])
 | f+1,.cond at_ d,p =>
  match mX (d+1) (p.next.aL [40]) with
  | none=>none
  | some (e,q)=>match mS f (.block (d+1)) (q.aL [41]) with
   | none=>none
   | some (b,q) =>
    if p.ck=9/\q.sign 0=ju then match mS f (.block (d+1)) q.next with
     | none=>none
     | some (b2,q)=>some (one p.ck at_ [] [e,b,b2],q)
    else some (one p.ck at_ [] [e,b],q)
def mB:Nat->Nat->List T->RS->Option (List T × RS)
 | 0,_,_,_=>none
 | f+1,d,acc,p=>if p.code=0/\¬ p.sign 0=[125] then match mS f (.stmt d) p with
   | none=>none
   | some (a,p)=>mB f d (acc++[a]) p
  else some (acc,p)
end
theorem dk {p:RS} {k:Nat} {s:ah} (h:p.sign k=s) (hs:s≠[]):p.i+k < p.l.length/\p.code=0:=by
 unfold RS.sign at h;split at h
 ·rename_i hc;refine ⟨Nat.lt_of_not_le fun hn=>?_,hc⟩;rw [List.getElem?_eq_none_iff.2 hn] at h;exact hs h.symm
 ·exact absurd h.symm hs
def RS.to (p q:RS):Prop:=q.l=p.l/\q.e=p.e/\q.i<=q.l.length/\p.i<=q.i
theorem RS.to.ok {p q:RS} (h:p.to q) (hp:p.ok):q.ok:=⟨h.2.2.1,by rw [h.1];exact hp.2⟩
theorem RS.to.trans {p q r:RS} (h:p.to q) (k:q.to r):p.to r:=⟨k.1.trans h.1,k.2.1.trans h.2.1,k.2.2.1,jg h.2.2.2 k.2.2.2⟩
theorem kh {p:RS} (hp:p.ok):p.to p:=⟨rfl,rfl,hp.1,aH _⟩
theorem lh {p:RS} (hp:p.ok) (c a:Int):p.to (p.fail c a):=by
 unfold RS.fail;split
 ·exact ⟨rfl,rfl,hp.1,aH _⟩
 ·exact kh hp
theorem cE {p:RS} (h:p.i < p.l.length):p.to p.next:=⟨rfl,rfl,h,Nat.le_succ _⟩
theorem bG {p:RS} (hp:p.ok) {s:ah} (hs:s≠[]):p.to (p.aL s):=by
 unfold RS.aL;split
 ·rename_i h;exact cE (by have:=(dk h hs).1;omega)
 ·exact ze6
theorem eO {p:RS} (hp:p.ok):p.to p.name.2:=by
 unfold RS.name;split
 ·cases ht:p.l[p.i]? with
  | none=>exact ze6
  | some t =>
   simp only;have au:=(bu ht).1;split
   ·split
    ·exact ze6
    ·exact cE au
   ·exact ze6
 ·exact kh hp
theorem ik {p:RS} (hp:p.ok) (d:Nat):p.to (p.deep d):=by
 unfold RS.deep;split
 ·exact ze6
 ·exact kh hp
theorem dC {p:RS} {s:ah} (h:p.sign 0=s) (hs:s≠[]):p.to p.next:=cE (by have:=(dk h hs).1;omega)
theorem tJ:∀ (f:Nat),(∀ j p t q,p.ok->mE f j p=some (t,q)->p.to q)/\(∀ d p l q,p.ok->mL f d p=some (l,q)->p.to q)/\(∀ d acc p l q,p.ok->rK f d acc p=some (l,q)->p.to q)
 | 0=>⟨fun j p t q _ h=>by simp [mE] at h,fun d p l q _ h=>by simp [mL] at h,fun d acc p l q _ h=>by simp [rK] at h⟩
 | f+1=>by
  obtain ⟨D,X,h3⟩:=tJ f;refine ⟨fun j p t q hp h=>?_,fun d p l q hp h=>?_,fun d acc p l q hp h=>?_⟩
  ·cases j with
   | expr d=>rw [mE] at h;exact (ik hp d).trans (D _ _ _ _ ((ik hp d).ok hp) h)
   | level k d =>
    rw [mE] at h;split at h
    ·exact D _ _ _ _ hp h
    ·split at h
     ·cases h
     ·rename_i out p' he;have:=D _ _ _ _ hp he;exact zcr
   | loop k d out =>
    rw [mE] at h;split at h
    ·split at h
     ·cases h
     ·rename_i t' ht;have hn:=cE (p:=p) (bu ht).1;split at h
      ·cases h
      ·exact zem
    ·cases h;exact kh hp
   | operand d =>
    rw [mE] at h;have hd:=ik hp d;have dv:=hd.ok hp;refine hd.trans ?_;generalize p.deep d=p at *
    try simp only at h
    split at h
    ·split at h
     ·cases h;exact lh dv _ _
     ·rename_i t' ht;have hn:=cE (p:=p) (bu ht).1;split at h
      ·cases h;exact hn
      ·split at h
       ·exact (eO dv).trans (D _ _ _ _ ((eO dv).ok dv) h)
       ·split at h
        ·split at h
         ·cases h
         ·rename_i a p' he
          cases h;exact hn.trans (D _ _ _ _ (hn.ok dv) he)
        ·split at h
         ·split at h
          ·cases h
          ·rename_i a p' he;have:=hn.trans (D _ _ _ _ (hn.ok dv) he)
           cases h;exact zbH
         ·cases h;exact lh dv _ _
    ·cases h;exact lh dv _ _
   | named a s d =>
    rw [mE] at h;split at h
    ·rename_i hs;have hn:=dC hs ao;split at h
     ·cases h
     ·rename_i a' p' he;have:=hn.trans (D _ _ _ _ (hn.ok hp) he)
      cases h;exact this.trans (bG (this.ok hp) ao)
    ·split at h
     ·rename_i hs;have hn:=dC hs ao;split at h
      ·cases h
      ·rename_i a' p' he
       cases h;exact hn.trans (X _ _ _ _ (hn.ok hp) he)
     ·cases h;exact kh hp
  ·rw [mL] at h;split at h
   ·cases h;exact bG hp ao
   ·split at h
    ·cases h
    ·rename_i a p' he;have:=D _ _ _ _ hp he;exact this.trans (h3 _ _ _ _ _ (this.ok hp) h)
  ·rw [rK] at h;split at h
   ·rename_i hs;have hn:=dC hs ao;split at h
    ·cases h
    ·rename_i a p' he;have:=hn.trans (D _ _ _ _ (hn.ok hp) he);exact this.trans (h3 _ _ _ _ _ (this.ok hp) h)
   ·cases h;exact bG hp ao
def small (c:UInt8):Bool:=decide ((97:Int)<=(c.toNat:Int))&&decide ((c.toNat:Int)<=122)
def ew (c:UInt8):Bool:=decide ((48:Int)<=(c.toNat:Int))&&decide ((c.toNat:Int)<=57)
def eJ (c:UInt8):Bool:=small c || (decide ((65:Int)<=(c.toNat:Int))&&decide ((c.toNat:Int)<=90)) || ew c || ((c.toNat:Int)==95)
def fu (c:UInt8):Bool:=((c.toNat:Int)==32) || ((c.toNat:Int)==9) || ((c.toNat:Int)==10) || ((c.toNat:Int)==13)
def bY (s:ah) (at_:Nat) (t:ah):Bool:=decide (at_+t.length<=s.length)&&((s.take (at_+t.length)).drop at_==t)
def fR (s:ah):Nat->Nat->Nat
 | 0,e=>e
 | f+1,e=>if e < s.length/\bY s e [42,47]=false then fR s f (e+1) else e
def skip (s:ah):Nat->Nat->Nat × Int
 | 0,at_=>(at_,-1)
 | f+1,at_=>match s[at_]? with
  | none=>(at_,-1)
  | some c =>
   if fu c=true then skip s f (at_+1)
   else if bY s at_ [47,42]=true then
    let e:=fR s s.length (at_+2)
    if s.length<=e then (at_,(at_:Int)) else skip s f (e+2)
   else (at_,-1)
theorem lC {s t:ah} {a:Nat} (h:bY s a t=true):a+t.length<=s.length:=by
 simp only [bY,aI,decide_eq_true_eq] at h;exact h.1
theorem uL (s:ah):∀ (f e:Nat),e<=s.length->e<=fR s f e/\fR s f e<=s.length
 | 0,e,h=>⟨aH _,h⟩
 | f+1,e,h=>by
  rw [fR];split
  ·rename_i hc;have:=uL s f (e+1) hc.1;omega
  ·exact zeL
theorem tH (s:ah):∀ (f e:Nat),e<=s.length->s.length<=f+e->¬ (fR s f e < s.length/\bY s (fR s f e) [42,47]=false)
 | 0,e,h,hf=>by rw [fR];omega
 | f+1,e,h,hf=>by
  rw [fR];split
  ·rename_i hc;exact tH s f (e+1) hc.1 aq
  ·assumption
def number (s:ah):Nat->Int->Nat->Int × Nat
 | 0,n,a=>(n,a)
 | f+1,n,a=>match s[a]? with
  | none=>(n,a)
  | some c=>if ew c=true then number s f (if n<=2147483647 then n * 10+((c.toNat:Int) - 48) else n) (a+1) else (n,a)
def run (s:ah) (p:UInt8->Bool):Nat->Nat->Nat
 | 0,a=>a
 | f+1,a=>match s[a]? with
  | none=>a
  | some c=>if p c=true then run s p f (a+1) else a
def words:List ah:=[[105,110,116],[118,97,114],[102,117,110,99],[105,102],[101,108,115,101],[119,104,105,108,101],[114,101,116,117,114,110]]
def bX:List ah:=[[124,124],[38,38],[61,61],[33,61],[60,61],[62,61],[60,60],[62,62],[40],[41],[123],[125],[91],[93],[44],[59],[61],[60],[62],[43],[45],[42],[47],[37],[38],[124],[94],[33],[126]]
def fS (s:ah) (a:Nat):Nat:=run s eJ (s.length+1) a
def ir (s:ah) (a:Nat):ah:=(s.take (fS s a)).drop a
def gw (s:ah) (a:Nat) (c:UInt8):Tok × Nat :=
 if ew c=true then (⟨1,(number s (s.length+1) 0 a).1,[],a⟩,(number s (s.length+1) 0 a).2)
 else if small c=true then (⟨if words.contains (ir s a)=true then 3 else 2,0,ir s a,a⟩,fS s a)
 else match bX.find? (bY s a) with
  | some x=>(⟨3,0,x,a⟩,a+x.length)
  | none=>(⟨0,0,[],0⟩,a)
def sx (s:ah):Nat->Nat->List Tok->Option (List Tok)
 | 0,_,_=>none
 | f+1,a,acc=>match s[a]? with
  | none=>some acc
  | some c=>sx s f (skip s (s.length+1) (gw s a c).2).1 (acc++[(gw s a c).1])
def gW (s:ah):Option (List Tok):=sx s (s.length+2) (skip s (s.length+1) 0).1 []
def word (s:ah):Bool:=s.all eJ&&(match s with | []=>false | c::_=>small c)
def bN (s:ah):Bool:=word s&&decide (s.length<=12)&&!(words.contains s)
theorem uP (s:ah):∀ (f:Nat) (n:Int) (a:Nat),a<=s.length->s.length < f+a->(∀ c,s[(number s f n a).2]?=some c->ew c=false)/\a<=(number s f n a).2/\(number s f n a).2<=s.length
 | 0,n,a,D,X=>by omega
 | f+1,n,a,D,X=>by
  rw [number]
  cases hc:s[a]? with
  | none=>exact ⟨fun c h=>(by rw [hc] at h;cases h),aH _,D⟩
  | some c =>
   simp only;have au:=(bu hc).1
   by_cases hd:ew c=true
   ·rw [ae hd];obtain ⟨h3,h4,h5⟩:=uP s f (if n<=2147483647 then n * 10+((c.toNat:Int) - 48) else n) (a+1) aq aq;exact ⟨h3,by omega,h5⟩
   ·exact zdB
theorem qn (s:ah) (p:UInt8->Bool):∀ (f:Nat) (a:Nat),a<=s.length->s.length < f+a->(∀ c,s[run s p f a]?=some c->p c=false)/\a<=run s p f a/\run s p f a<=s.length
 | 0,a,D,X=>by omega
 | f+1,a,D,X=>by
  rw [run]
  cases hc:s[a]? with
  | none=>exact ⟨fun c h=>(by rw [hc] at h;cases h),aH _,D⟩
  | some c =>
   simp only;have au:=(bu hc).1
   by_cases hd:p c=true
   ·rw [ae hd];obtain ⟨h3,h4,h5⟩:=qn s p f (a+1) aq aq;exact ⟨h3,by omega,h5⟩
   ·exact zdB
theorem u5 (s:ah):∀ (f a:Nat),a<=s.length->a<=(skip s f a).1/\(skip s f a).1<=s.length
 | 0,a,h=>⟨aH _,h⟩
 | f+1,a,h=>by
  rw [skip]
  cases hc:s[a]? with
  | none=>exact zeL
  | some c =>
   simp only;have au:=(bu hc).1;split
   ·have:=u5 s f (a+1) au;omega
   ·split
    ·rename_i hb;have hb:=lC hb;have hb:a+2<=s.length:=hb;have D:=uL s s.length (a+2) hb;have X:=tH s s.length (a+2) hb aq;split
     ·exact zeL
     ·rename_i hn
      have h3:bY s (fR s s.length (a+2)) [42,47]=true:=by
       cases qu:bY s (fR s s.length (a+2)) [42,47] with
       | true=>rfl
       | false=>exact absurd ⟨by omega,qu⟩ X
      have h3:=lC h3;have h3:fR s s.length (a+2)+2<=s.length:=h3;have:=u5 s f (fR s s.length (a+2)+2) h3;omega
    ·exact zeL
theorem fO {d:Nat} {p q:RS} {t:T} (hp:p.ok) (h:mX d p=some (t,q)):p.to q:=(tJ _).1 _ _ _ _ hp h
theorem rf:∀ (f:Nat),(∀ j p t q,p.ok->(∀ a d,j=.cond a d->p.i < p.l.length)->mS f j p=some (t,q)->p.to q)/\(∀ d acc p l q,p.ok->mB f d acc p=some (l,q)->p.to q)
 | 0=>⟨fun j p t q _ _ h=>by simp [mS] at h,fun d acc p l q _ h=>by simp [mB] at h⟩
 | f+1=>by
  obtain ⟨D,X⟩:=rf f
  have eQ:∀ d (p:RS) t q,p.ok->mS f (.block d) p=some (t,q)->p.to q:=fun d p t q hp h=>D _ _ _ _ hp (fun a d' h=>by cases h) h
  refine ⟨fun j p t q hp pz h=>?_,fun d acc p l q hp h=>?_⟩
  ·cases j with
   | block d =>
    rw [mS] at h;have hd:=ik hp d;refine hd.trans ?_;have dv:=hd.ok hp;generalize p.deep d=p at *
    try simp only at h
    have hm:=bG dv (s:=[123]) ao;split at h
    ·cases h
    ·rename_i l p' he;have:=hm.trans (X _ _ _ _ _ (hm.ok dv) he)
     cases h;exact zbH
   | stmt d =>
    rw [mS] at h;have hd:=ik hp d;refine hd.trans ?_;have dv:=hd.ok hp;generalize p.deep d=p at *
    try simp only at h
    split at h
    ·rename_i hs;have hn:=dC hs ao;have dq:=hn.trans (eO (hn.ok dv));have fD:=dq.trans (bG (dq.ok dv) (s:=[61]) ao);split at h
     ·cases h
     ·rename_i e p' he;have:=fD.trans (fO (fD.ok dv) he)
      cases h;exact zbH
    ·split at h
     ·rename_i hs;refine D _ _ _ _ dv (fun a d' _=>?_) h
      rcases hs with hs | hs
      ·exact zdU
      ·exact zdU
     ·split at h
      ·rename_i hs;have hn:=dC hs ao;split at h
       ·cases h
       ·rename_i e p' he;have:=hn.trans (fO (hn.ok dv) he)
        cases h;exact zbH
      ·split at h
       ·have dq:=eO dv;have fD:=dq.trans (bG (dq.ok dv) (s:=[61]) ao);split at h
        ·cases h
        ·rename_i e p' he;have:=fD.trans (fO (fD.ok dv) he)
         cases h;exact zbH
       ·split at h
        ·cases h
        ·rename_i e p' he;have hx:=fO dv he;split at h
         ·rename_i hs;have hn:=hx.trans (dC hs.2.2 ao);split at h
          ·rename_i a r v p2 hk nO;have:=hn.trans (fO (hn.ok dv) nO)
           cases h;exact zbH
          ·cases h
         ·cases h;exact hx.trans (bG (hx.ok dv) ao)
   | cond a d =>
    rw [mS] at h;have hn:=cE (pz a d rfl);have hm:=hn.trans (bG (hn.ok hp) (s:=[40]) ao)
    try simp only at h
    split at h
    ·cases h
    ·rename_i e p' he;have hx:=hm.trans (fO (hm.ok hp) he);have sd:=hx.trans (bG (hx.ok hp) (s:=[41]) ao);split at h
     ·cases h
     ·rename_i b p2 hb;have ej:=sd.trans (eQ _ _ _ _ (sd.ok hp) hb);split at h
      ·rename_i hs;have bZ:=ej.trans (dC hs.2 ao);split at h
       ·cases h
       ·rename_i b2 p3 vm
        cases h;exact bZ.trans (eQ _ _ _ _ (bZ.ok hp) vm)
      ·cases h;exact ej
  ·rw [mB] at h;split at h
   ·split at h
    ·cases h
    ·rename_i a p' he;have:=D _ _ _ _ hp (fun a d' h=>by cases h) he;exact zdw
   ·cases h;exact kh hp
structure Fn where
 name:ah
 params:List ah
 body:Int
structure Src where
 globals:List ah
 arrays:List Ar
 fns:List Fn
 nodes:List Nd
def oX (k:Int):Bool:=decide ((1:Int)<=k)&&decide (k<=6)
def jt (k:Int):Bool:=decide ((7:Int)<=k)&&decide (k<=13)
def bJ (from_:Nat):Nat->List T->Bool
 | _,[]=>true
 | i,t::r=>(if i < from_ then oX t.n.kind else t.n.kind==14)&&bJ from_ (i+1) r
def ia (s:ah):Bool:=levels.any fun l=>l.contains s
mutual
def sub (nodes:List Nd):Nat->Nat->Option T
 | 0,_=>none
 | f+1,a=>match nodes[a]? with
  | none=>none
  | some n=>match qG nodes f n.kids [] with
   | none=>none
   | some l=>some (.mk n l)
def qG (nodes:List Nd):Nat->List Int->List T->Option (List T)
 | _,[],acc=>some acc
 | 0,_::_,_=>none
 | f+1,k::r,acc=>if k < 0 then none else match sub nodes f k.toNat with
  | none=>none
  | some t=>qG nodes f r (acc++[t])
end
mutual
def qC (nodes:List Nd):Nat->Nat->Nat->Option Int
 | 0,_,_=>none
 | f+1,a,d=>if nodes.length<=a\/d > 800 then some (-1) else match nodes[a]? with
  | none=>none
  | some n=>pM nodes f n.kids (a+1) d
def pM (nodes:List Nd):Nat->List Int->Int->Nat->Option Int
 | _,[],next,_=>some next
 | 0,_::_,_,_=>none
 | f+1,k::r,next,d=>if k=next then match qC nodes f k.toNat (d+1) with
   | none=>none
   | some e=>if e < 0 then some (-1) else pM nodes f r e d
  else some (-1)
end
def own (n:Nd) (k:Nat) (kd:Nat->Bool) (bl:Bool):Bool :=
 if decide (n.at_ < 0) then false else if n.kind != 1&&n.n != 0 then false
 else if n.kind==1 then decide ((0:Int)<=n.n)&&(decide (n.n<=2147483647)&&(n.s==[]&&(k:Int)==0))
 else if n.kind==2 then bN n.s&&(k:Int)==0
 else if n.kind==3 || n.kind==7 || n.kind==13 then bN n.s&&((k:Int)==1&&kd 1)
 else if n.kind==4 then bN n.s&&kd k
 else if n.kind==5 then (n.s==[45] || n.s==[33] || n.s==[126])&&((k:Int)==1&&kd 1)
 else if n.kind==6 then ia n.s&&((k:Int)==2&&kd 2)
 else if n.kind==8 then bN n.s&&((k:Int)==2&&kd 2)
 else if n.kind==9 then n.s==[]&&(((k:Int)==2 || (k:Int)==3)&&kd 1)
 else if n.kind==10 then n.s==[]&&((k:Int)==2&&kd 1)
 else if n.kind==11 || n.kind==12 then n.s==[]&&((k:Int)==1&&kd 1)
 else if n.kind==14 then bl&&n.s==[]
 else false
def cy (t:T):Bool:=own t.n t.kids.length (fun m=>bJ m 0 t.kids) (t.kids.all fun x=>jt x.n.kind)
mutual
def dQ:T->Bool
 | .mk n l=>cR l&&cy (.mk n l)
def cR:List T->Bool
 | []=>true
 | t::r=>dQ t&&cR r
end
mutual
def IH:T->Prop
 | .mk n l=>n.s.length<=1099511627776/\l.length<=1099511627776/\y8 l
def y8:List T->Prop
 | []=>True
 | t::r=>IH t/\y8 r
end
theorem IJ:∀ {l:List T} {t:T},y8 l->t∈l->IH t
 | [],_,_,h=>by cases h
 | a::r,t,h,hm=>by
  rw [y8] at h
  rcases List.mem_cons.mp hm with rfl | hm
  ·exact h.1
  ·exact IJ h.2 hm
theorem II:∀ {l:List T} {t:T},y8 l->IH t->y8 (l++[t])
 | [],t,_,ht=>⟨ht,trivial⟩
 | a::r,t,h,ht=>by
  rw [y8] at h;exact ⟨h.1,II h.2 ht⟩
theorem YW {nodes:List Nd} (hk:∀ n∈nodes,n.s.length<=1099511627776/\n.kids.length<=1099511627776):∀ f:Nat,(∀ a t,sub nodes f a=some t->IH t)/\(∀ ks acc l,qG nodes f ks acc=some l->acc.length+ks.length=l.length/\(y8 acc->y8 l)):=by
 intro f
 induction f with
 | zero =>
  refine ⟨fun a t h=>by simp [sub] at h,fun ks acc l h=>?_⟩
  cases ks with
  | nil=>rw [qG] at h;cases h;exact ⟨by simp,id⟩
  | cons k r=>simp [qG] at h
 | succ f ih =>
  constructor
  ·intro a t h;rw [sub] at h
   cases hn:nodes[a]? with
   | none=>exact zdL
   | some n =>
   rw [hn] at h;simp only at h
   cases hs:qG nodes f n.kids [] with
   | none=>rw [hs] at h;cases h
   | some l =>
   rw [hs] at h;cases h;have hi:=ih.2 _ _ _ hs;have hb:=hk n (br hn);exact ⟨hb.1,by have:=hi.1;simp at this;omega,hi.2 trivial⟩
  ·intro ks acc l h
   cases ks with
   | nil=>rw [qG] at h;cases h;exact ⟨by simp,id⟩
   | cons k r =>
    rw [qG] at h
    by_cases Aa:k < 0
    ·rw [ae Aa] at h;cases h
    rw [ab Aa] at h
    cases hs:sub nodes f k.toNat with
    | none=>rw [hs] at h;cases h
    | some t =>
    rw [hs] at h;simp only at h;have X:=ih.2 _ _ _ h;refine ⟨by have:=X.1;simp at this |-;omega,fun ha=>X.2 (II ha (ih.1 _ _ hs))⟩
def de:List ah->Bool:=fun l=>l.all bN
def qB (a:Ar):Bool:=bN a.name&&!(decide (a.size < 0))&&!(decide (2147483647 < a.size))
def fN (nodes:List Nd):Nat:=2 * nodes.length+4
def iC (nodes:List Nd):List Fn->Int->Option (Option Int)
 | [],next=>some (some next)
 | f::r,next=>match qC nodes (fN nodes) next.toNat 0 with
  | none=>none
  | some e=>if f.body≠next\/bN f.name=false\/e < 0 then some none else if de f.params=false then some none else match sub nodes (fN nodes) next.toNat with
   | none=>none
   | some t=>if t.n.kind≠14\/dQ t=false then some none else iC nodes r e
def qp (p:Src):Option Bool :=
 if de p.globals=false then some false else if p.arrays.all qB=false then some false else match iC p.nodes p.fns 0 with
  | none=>none
  | some none=>some false
  | some (some next)=>some (next==(p.nodes.length:Int)&&decide (next<=800))
end Go.Sp
namespace Go.Xp
theorem Ez {e:Int} {s:ah} {ts r:List Tok} (h:aL e s ts=.ok r):r=ts.tail/\sign ts 0=s:=by
 unfold aL at h;split at h
 ·cases h;exact ⟨rfl,by assumption⟩
 ·cases h
theorem yP {e:Int} {s:ah} {ts r:List Tok} (h:aL e s ts=.ok r):r.length<=ts.length:=by
 rw [(Ez h).1,List.length_tail];omega
theorem A8 {e:Int} {s:ah} {ts r:List Tok} (hs:s≠[]) (h:aL e s ts=.ok r):r.length < ts.length:=by
 obtain ⟨D,X⟩:=Ez h;rw [D,List.length_tail]
 cases ts with
 | nil=>exact absurd X.symm hs
 | cons=>simp
theorem dk {s:ah} {ts:List Tok} (hs:s≠[]) (h:sign ts 0=s):ts.tail.length < ts.length:=by
 cases ts with
 | nil=>exact absurd h.symm hs
 | cons=>simp
theorem rL {e:Int} {s:ah} {ts:List Tok} {x:Er} (h:aL e s ts=.error x):x≠bo:=by
 unfold aL at h;split at h
 ·cases h
 ·cases h;intro h0;cases h0
theorem Ic {e:Int} {s:ah} {ts r:List Tok} (h:name e ts=.ok (s,r)):r.length < ts.length:=by
 unfold name at h;split at h
 ·cases h
 ·split at h
  ·split at h
   ·cases h
   ·cases h;simp
  ·cases h
theorem Ln {e:Int} {ts:List Tok} {x:Er} (h:name e ts=.error x):x≠bo:=by
 unfold name at h;split at h
 ·cases h;intro h0;cases h0
 ·split at h
  ·split at h <;> cases h;intro h0;cases h0
  ·cases h;intro h0;cases h0
def qE:wb->Nat->Nat
 | .operand _,n=>20 * n+1
 | .loop _ _ _,n=>20 * n+1
 | .level k _,n=>20 * n+2+(9 - k)
 | .expr _,n=>20 * n+12
def yT (acc:List T) (n:Nat):Nat:=match acc with | []=>20 * n+14 | _=>20 * n+1
def MM:wb->Prop
 | .level k _=>k<=9
 | .loop k _ _=>k < 9
 | _=>True
def good (e:Int) (f:Nat) (j:wb) (ts:List Tok):Prop :=
 MM j->(∀ t r,rd e f j ts=.ok (t,r)->r.length<=ts.length)/\(qE j ts.length<=f->rd e f j ts≠.error bo)
def TI (e:Int) (f deep:Nat) (acc:List T) (ts:List Tok):Prop :=
 (∀ t r,rd.args e f deep acc ts=.ok (t,r)->r.length<=ts.length)/\(yT acc ts.length<=f->rd.args e f deep acc ts≠.error bo)
theorem er7 {a:Int}:((7,a):Er)≠bo:=by intro h;cases h
theorem er9 {a:Int}:((9,a):Er)≠bo:=by intro h;cases h
theorem ED (e:Int):∀ f,(∀ j ts,good e f j ts)/\(∀ deep acc ts,TI e f deep acc ts)
 | 0=>by
  refine ⟨fun j ts _=>⟨fun t r h=>?_,fun h=>?_⟩,fun deep acc ts=>⟨fun t r h=>?_,fun h=>?_⟩⟩
  ·rw [rd] at h;cases h
  ·cases j <;> simp only [qE] at h <;> omega
  ·rw [rd.args] at h;cases h
  ·unfold yT at h;split at h <;> omega
 | f+1=>by
  obtain ⟨ih,Ak⟩:=ED e f;constructor
  ·intro j ts hj
   cases j with
   | expr deep =>
    obtain ⟨D,X⟩:=ih (.level 0 (deep+1)) ts (aX _);rw [rd];split
    ·exact za8
    ·exact zfh
   | level k deep =>
    have hj:k<=9:=hj;rw [rd];split
    ·obtain ⟨D,X⟩:=ih (.operand deep) ts trivial;exact zfh
    ·obtain ⟨D,X⟩:=ih (.level (k+1) deep) ts (by show k+1<=9;omega);split
     ·rename_i x hx;exact ⟨fun t r h=>zfA,fun h h0=>X (by simp only [qE] at h |-;omega) (hx.trans h0)⟩
     ·rename_i out kv hx;obtain ⟨h3,h4⟩:=ih (.loop k deep out) kv (by show k < 9;omega);have:=D _ _ hx;exact ⟨fun t r h=>jg (h3 t r h) this,fun h=>h4 (by simp only [qE] at h |-;omega)⟩
   | loop k deep out =>
    have hj:k < 9:=hj
    cases ts with
    | nil=>rw [rd];exact zef
    | cons t0 r0 =>
     rw [rd];split
     ·obtain ⟨D,X⟩:=ih (.level (k+1) deep) r0 (by show k+1<=9;omega);split
      ·exact zav
      ·rename_i b r hx;obtain ⟨h3,h4⟩:=ih (.loop k deep (one 6 t0.at_ t0.s [out,b])) r hj;have:=D _ _ hx;exact ⟨fun t r h=>by have:=h3 t r h;simp only [length_cons];omega,fun h=>h4 (by simp only [qE,length_cons] at h |-;omega)⟩
     ·exact zef
   | operand deep =>
    cases ts with
    | nil=>rw [rd];split <;> exact ⟨fun t r h=>zfA,fun _ h=>zfA⟩
    | cons t0 r0 =>
    rw [rd];split
    ·exact za8
    split
    ·split
     ·obtain ⟨D,X⟩:=ih (.operand (deep+1)) r0 trivial;split
      ·exact zav
      ·rename_i a r hx;have:=D _ _ hx;exact zaA
     split
     ·obtain ⟨D,X⟩:=ih (.expr (deep+1)) r0 trivial;split
      ·exact zav
      ·rename_i a r hx;have:=D _ _ hx;split
       ·exact zaE
       ·rename_i r' hm;have:=yP hm;exact zaA
     ·exact za8
    split
    ·exact zeQ
    split
    ·rename_i x hm;exact ⟨fun t r h=>zfA,fun _ h=>Ln hm zgz⟩
    ·rename_i s r hn;have hl:=Ic hn;simp only [length_cons] at hl
     have au:r.tail.length<=r.length:=by simp
     split
     ·obtain ⟨D,X⟩:=ih (.expr (deep+1)) r.tail trivial;split
      ·exact zav
      ·rename_i a r' hx;have:=D _ _ hx;split
       ·exact zaE
       ·rename_i r'' hm;have:=yP hm;exact zaA
     split
     ·obtain ⟨D,X⟩:=Ak (deep+1) [] r.tail;split
      ·rename_i x hx;exact ⟨fun t r h=>zfA,fun h h0=>X (by simp only [qE,yT,length_cons] at h |-;omega) (hx.trans (by cases h0;rfl))⟩
      ·rename_i a r' hx;have:=D _ _ hx;exact zaA
     ·exact zaA
  ·intro deep acc ts;unfold TI;rw [rd.args];split
   ·exact zeQ
   ·by_cases lF:acc=[]
    ·subst lF;simp only [if_true];obtain ⟨D,X⟩:=ih (.expr deep) ts trivial;split
     ·rename_i x hx;exact ⟨fun t r h=>zfA,fun h h0=>X (by simp only [qE,yT] at h |-;omega) (hx.trans (by cases h0;rfl))⟩
     ·rename_i a r hx;have:=D _ _ hx;obtain ⟨h3,h4⟩:=Ak deep ([]++[a]) r;exact ⟨fun t r h=>by have:=h3 t r h;omega,fun h=>h4 (by simp only [nil_append,yT] at h |-;omega)⟩
    ·rw [ab lF]
     have De:∀ n,yT acc n=20 * n+1:=by cases acc with | nil=>exact absurd rfl lF | cons=>exact fun _=>rfl
     split
     ·exact zaE
     ·rename_i kv hm;have au:=A8 ao hm;obtain ⟨D,X⟩:=ih (.expr deep) kv trivial;split
      ·rename_i x hx;exact ⟨fun t r h=>zfA,fun h h0=>X (by simp only [qE,De] at h |-;omega) (hx.trans (by cases h0;rfl))⟩
      ·rename_i a r hx;have:=D _ _ hx;obtain ⟨h3,h4⟩:=Ak deep (acc++[a]) r
       have abx:yT (acc++[a]) r.length=20 * r.length+1:=by
        cases acc with
        | nil=>exact absurd rfl lF
        | cons=>rfl
       exact ⟨fun t r h=>by have:=h3 t r h;omega,fun h=>h4 (by rw [abx] ;simp only [De] at h;omega)⟩
theorem YE {e:Int} {f:Nat} {j:wb} {ts:List Tok} {t:T} {r:List Tok} (hj:MM j) (h:rd e f j ts=.ok (t,r)):r.length<=ts.length:=((ED e f).1 j ts hj).1 t r h
theorem Bb {e:Int} {f:Nat} {j:wb} {ts:List Tok} (hj:MM j) (h:qE j ts.length<=f):rd e f j ts≠.error bo:=((ED e f).1 j ts hj).2 h
theorem Fu {e:Int} {deep:Nat} {ts:List Tok}:expr e deep ts≠.error bo:=Bb (j:=.expr deep) trivial (by simp only [qE,oN];omega)
theorem B1 {e:Int} {deep:Nat} {ts:List Tok} {t:T} {r:List Tok} (h:expr e deep ts=.ok (t,r)):r.length<=ts.length:=YE (j:=.expr deep) trivial h
theorem Ci {e:Int} {deep:Nat} {a b:ah} {ts r:List Tok} {t:T} (ha:a≠[]) (h:inner e deep a b ts=.ok (t,r)):r.length < ts.length:=by
 unfold inner at h;split at h
 ·cases h
 ·rename_i t1 D;split at h
  ·cases h
  ·rename_i a1 t2 X;split at h
   ·cases h
   ·rename_i t3 h3;cases h;have:=A8 ha D;have:=B1 X;have:=yP h3;omega
theorem Ch {e:Int} {deep:Nat} {a b:ah} {ts:List Tok} {x:Er} (h:inner e deep a b ts=.error x):x≠bo:=by
 unfold inner at h;split at h
 ·rename_i D;cases h;exact rL D
 ·split at h
  ·rename_i x2 X;cases h;intro h0;exact Fu (X.trans zfC)
  ·split at h
   ·rename_i h3;cases h;exact rL h3
   ·cases h
theorem ID {e:Int} {deep:Nat} {ts r:List Tok} {t:ah × T} (h:mV e deep ts=.ok (t,r)):r.length < ts.length:=by
 unfold mV at h;split at h
 ·cases h
 ·rename_i s t1 D;split at h
  ·cases h
  ·rename_i a t2 X;cases h;have:=Ic D;have:=Ci ao X;omega
theorem IC {e:Int} {deep:Nat} {ts:List Tok} {x:Er} (h:mV e deep ts=.error x):x≠bo:=by
 unfold mV at h;split at h
 ·rename_i D;cases h;exact Ln D
 ·split at h
  ·rename_i X;cases h;exact Ch X
  ·cases h
theorem B0 {e:Int} {deep:Nat} {ts:List Tok} {x:Er} (h:expr e deep ts=.error x):x≠bo:=fun h0=>Fu (h.trans zfC)
theorem Qz {e:Int} {deep:Nat} {ts r:List Tok} {t:T} (h:simple e deep ts=.ok (t,r)):r.length < ts.length:=by
 unfold simple at h;split at h
 ·exact zeS
 ·rename_i t0 r0;split at h
  ·split at h
   ·cases h
   ·rename_i s a t1 D;cases h;exact ID D
  ·split at h
   ·cases h
   ·rename_i a t1 D;have:=B1 D;split at h
    ·split at h
     ·cases h
     ·rename_i v t2 X;cases h;have:=Ci ao X;omega
    ·split at h
     ·cases h
     ·rename_i t2 X;cases h;have:=A8 ao X;omega
theorem Qy {e:Int} {deep:Nat} {ts:List Tok} {x:Er} (h:simple e deep ts=.error x):x≠bo:=by
 unfold simple at h;split at h
 ·split at h
  ·rename_i D;cases h;exact B0 D
  ·cases h;exact er7
 ·split at h
  ·split at h
   ·rename_i D;cases h;exact IC D
   ·cases h
  ·split at h
   ·rename_i D;cases h;exact B0 D
   ·split at h
    ·split at h
     ·rename_i X;cases h;exact Ch X
     ·cases h
    ·split at h
     ·rename_i X;cases h;exact rL X
     ·cases h
def TK (e:Int) (f:Nat) (j:ur) (ts:List Tok):Prop :=
 (∀ t r,rs e f j ts=.ok (t,r)->r.length < ts.length)/\(3 * ts.length+1<=f->rs e f j ts≠.error bo)
def TJ (e:Int) (f deep:Nat) (acc:List T) (ts:List Tok):Prop :=
 (∀ t r,rs.body e f deep acc ts=.ok (t,r)->r.length < ts.length)/\(3 * ts.length+2<=f->rs.body e f deep acc ts≠.error bo)
theorem EG (e:Int):∀ f,(∀ j ts,TK e f j ts)/\(∀ deep acc ts,TJ e f deep acc ts)
 | 0=>by
  refine ⟨fun j ts=>⟨fun t r h=>?_,fun h=>by omega⟩,fun deep acc ts=>⟨fun t r h=>?_,fun h=>by omega⟩⟩
  ·rw [rs] at h;cases h
  ·rw [rs.body] at h;cases h
 | f+1=>by
  obtain ⟨ih,Ak⟩:=EG e f;constructor
  ·intro j ts;unfold TK
   cases j with
   | block deep =>
    rw [rs];split
    ·exact za8
    ·split
     ·exact zaE
     ·rename_i r0 hm;have h0:=A8 ao hm;obtain ⟨D,X⟩:=Ak (deep+1) [] r0;split
      ·exact zcY
      ·rename_i l r hx;have:=D _ _ hx;exact zaG
   | stmt deep =>
    rw [rs];split
    ·exact za8
    ·simp only;split
     ·rename_i hv;have h0:=dk ao hv;split
      ·rename_i x hx;exact ⟨fun t r h=>zfA,fun _ h=>IC hx zgz⟩
      ·rename_i s a t1 hx;have:=ID hx;exact zaG
     split
     ·rename_i hv
      have h0:ts.tail.length < ts.length:=by
       rcases hv with hv | hv <;> exact dk ao hv
      split
      ·rename_i x hx;exact ⟨fun t r h=>zfA,fun _ h=>Ch hx zgz⟩
      ·rename_i c r1 hx;have hc:=Ci ao hx;obtain ⟨D,X⟩:=ih (.block (deep+1)) r1;split
       ·rename_i x KV;exact ⟨fun t r h=>zfA,fun h h0=>X aq (KV.trans h0)⟩
       ·rename_i b r2 KV;have hb:=D _ _ KV;split
        ·split
         ·obtain ⟨h3,h4⟩:=ih (.block (deep+1)) r2.tail
          have ht:r2.tail.length<=r2.length:=by simp
          split
          ·rename_i x Px;exact ⟨fun t r h=>zfA,fun h h0=>h4 aq (Px.trans h0)⟩
          ·rename_i b2 r3 Px;have:=h3 _ _ Px;exact zaG
         ·exact zaG
        ·exact zaG
     split
     ·rename_i hv;have h0:=dk ao hv;split
      ·rename_i x hx;exact ⟨fun t r h=>zfA,fun _ h=>B0 hx zgz⟩
      ·rename_i a r1 hx;have:=B1 hx;split
       ·exact zaE
       ·rename_i r2 hm;have:=yP hm;exact zaG
     ·exact ⟨fun t r h=>Qz h,fun _ h=>Qy h rfl⟩
  ·intro deep acc ts;unfold TJ;rw [rs.body];split
   ·rename_i hv;have h0:=dk ao hv;exact ⟨fun t r h=>(by cases h;exact h0),fun _ h=>zfA⟩
   ·obtain ⟨D,X⟩:=ih (.stmt deep) ts;split
    ·exact zcY
    ·rename_i a r hx;have:=D _ _ hx;obtain ⟨h3,h4⟩:=Ak deep (acc++[a]) r;exact ⟨fun t r h=>by have:=h3 t r h;omega,fun h=>h4 aq⟩
theorem YH {e:Int} {f:Nat} {j:ur} {ts:List Tok} {t:T} {r:List Tok} (h:rs e f j ts=.ok (t,r)):r.length < ts.length:=((EG e f).1 j ts).1 t r h
theorem yl {e:Int} {deep:Nat} {ts:List Tok}:block e deep ts≠.error bo:=((EG e _).1 (.block deep) ts).2 (by simp only [oN];omega)
theorem aar {e:Int} {deep:Nat} {ts:List Tok} {t:T} {r:List Tok} (h:block e deep ts=.ok (t,r)):r.length < ts.length:=YH h
end Go.Xp
namespace Go.Sp
open Go.Xp
structure On (p:RS) (ts:List Tok):Prop where
 code:p.code=0
 le:p.i<=p.l.length
 rest:p.l.drop p.i=ts
 kinds:∀ t∈p.l,t.kind=1\/t.kind=2\/t.kind=3
def b9 (p q:RS):Except Er (List Tok)->Prop
 | .ok r=>On q r/\q.l=p.l/\q.e=p.e
 | .error x=>q.code=x.1/\x.1≠0/\q.at_=x.2/\q.l=p.l/\q.e=p.e
def kR {α:Type} (p q:RS) (t:α):Rd α->Prop
 | .ok (t',r)=>t=t'/\b9 p q (.ok r)
 | .error x=>b9 p q (.error x)
section
variable {p q q':RS} {ts r:List Tok} {x:Er}
theorem b9.err (h:b9 p q (.error x)):q.code≠0:=by rw [h.1];exact h.2.1
theorem b9.tr {y:Except Er (List Tok)} (h:b9 p q (.ok r)) (k:b9 q q' y):b9 p q' y:=by
 obtain ⟨_,D,X⟩:=h
 cases y with
 | ok r=>exact ⟨k.1,k.2.1.trans D,k.2.2.trans X⟩
 | error x=>exact ⟨k.1,k.2.1,k.2.2.1,k.2.2.2.1.trans D,k.2.2.2.2.trans X⟩
theorem kR.tr {α:Type} {t:α} {y:Rd α} (h:b9 p q (.ok r)) (k:kR q q' t y):kR p q' t y:=by
 cases y with
 | ok r=>obtain ⟨t',r⟩:=r;exact ⟨k.1,h.tr k.2⟩
 | error x=>exact h.tr (y:=.error x) k
theorem On.self (h:On p ts):b9 p p (.ok ts):=⟨h,rfl,rfl⟩
theorem On.at (h:On p ts) (k:Nat):p.l[p.i+k]?=ts[k]?:=by rw [<-h.rest,List.getElem?_drop]
theorem On.sign (h:On p ts) (k:Nat):p.sign k=Go.Xp.sign ts k:=by
 unfold RS.sign Go.Xp.sign;rw [ae h.code,h.at]
 all_goals (cases ts[k]? <;> rfl)
theorem On.place (h:On p ts):p.place=Go.Xp.place p.e ts:=by
 have h0:=h.at 0;unfold RS.place;rw [Nat.add_zero] at h0;rw [h0]
 cases ts with
 | nil=>rfl
 | cons t r=>rfl
theorem On.next {t:Tok} (h:On p (t::r)):b9 p p.next (.ok r):=by
 have D:p.i < p.l.length:=by
  have:=congrArg List.length h.rest;simp at this;omega
 refine ⟨⟨h.code,D,?_,h.kinds⟩,rfl,rfl⟩;show p.l.drop (p.i+1)=r;rw [<-List.tail_drop,h.rest];rfl
theorem On.fail (h:On p ts) (c a:Int) (hc:c≠0):b9 p (p.fail c a) (.error (c,a)):=by
 unfold RS.fail;rw [ae h.code];exact ⟨rfl,hc,rfl,rfl,rfl⟩
theorem vk (h:p.code≠0) (c a:Int):p.fail c a=p:=by unfold RS.fail;rw [ab h]
theorem nk (h:p.code≠0) (k:Nat):p.sign k=[]:=by unfold RS.sign;rw [ab h]
theorem iI (h:p.code≠0) {s:ah} (hs:s≠[]):p.aL s=p:=by
 unfold RS.aL;rw [nk h,ab (fun e=>hs e.symm),vk h]
theorem Cx (h:p.code≠0):p.name=([],p):=by unfold RS.name;rw [ab h]
theorem sQ (h:p.code≠0) (d:Nat):p.deep d=p:=by unfold RS.deep;split <;> simp [vk h]
theorem eh {s:ah} (hs:s≠[]) (h:Go.Xp.sign ts 0=s):∃ t,ts=t::ts.tail/\t.kind=3/\t.s=s:=by
 cases ts with
 | nil=>exact absurd h.symm hs
 | cons t r =>
  refine ⟨t,rfl,?_⟩;simp only [Go.Xp.sign,getElem?_cons_zero,dE] at h;split at h
  ·exact ⟨by assumption,h⟩
  ·exact absurd h.symm hs
theorem On.aL (h:On p ts) {s:ah} (hs:s≠[]):b9 p (p.aL s) (Go.Xp.aL p.e s ts):=by
 unfold RS.aL Go.Xp.aL;rw [h.sign]
 by_cases h0:Go.Xp.sign ts 0=s
 ·rw [ae h0,ae h0];obtain ⟨t,ht,_⟩:=eh hs h0;rw [ht] at h
  exact h.next
 ·rw [ab h0,ab h0,h.place];exact h.fail 7 _ ao
theorem On.name (h:On p ts):kR p p.name.2 p.name.1 (Go.Xp.name p.e ts)\/∃ x,Go.Xp.name p.e ts=.error x/\b9 p p.name.2 (.error x):=by
 have h0:=h.at 0;rw [Nat.add_zero] at h0;unfold RS.name;rw [ae h.code,h0]
 cases ts with
 | nil=>exact .inr ⟨_,rfl,by rw [h.place];exact h.fail 7 _ ao⟩
 | cons t r =>
  simp only [getElem?_cons_zero,Go.Xp.name];split
  ·split
   ·exact .inr ⟨_,rfl,h.fail 8 _ ao⟩
   ·exact .inl ⟨rfl,h.next⟩
  ·refine .inr ⟨_,rfl,?_⟩;have:p.place=t.at_:=h.place;rw [this];exact h.fail 7 _ ao
end
theorem Dn {p:RS} (h:p.code≠0):(∀ g d,1<=g->mE g (.operand d) p=some (T.zero,p))/\(∀ g k d out,1<=g->mE g (.loop k d out) p=some (out,p))/\(∀ n g k d,k+n=9->n+2<=g->mE g (.level k d) p=some (T.zero,p)):=by
 have D:∀ g d,1<=g->mE g (.operand d) p=some (T.zero,p):=by
  intro g d hg
  cases g with
  | zero=>omega
  | succ g=>rw [mE];simp [sQ h,h,vk h]
 have X:∀ g k d out,1<=g->mE g (.loop k d out) p=some (out,p):=by
  intro g k d out hg
  cases g with
  | zero=>omega
  | succ g=>rw [mE];simp [h]
 refine ⟨D,X,fun n=>?_⟩
 induction n with
 | zero =>
  intro g k d hk hg
  cases g with
  | zero=>omega
  | succ g=>rw [mE,ae aq];exact D g _ aq
 | succ n ih =>
  intro g k d hk hg
  cases g with
  | zero=>omega
  | succ g =>
   rw [mE,ab aq,ih g (k+1) d aq aq];exact X g _ _ _ aq
theorem Yn {p:RS} (h:p.code≠0) {g d:Nat} (hg:12<=g):mE g (.expr d) p=some (T.zero,p):=by
 cases g with
 | zero=>omega
 | succ g=>rw [mE,sQ h];exact (Dn h).2.2 9 g 0 d rfl aq
def KF (f:Nat):Nat:=2 * f+20
structure JE (f:Nat):Prop where
 expr:∀ d ts p,On p ts->rd p.e f (.expr d) ts≠.error bo->∃ t q,(∀ g,KF f<=g->mE g (.expr d) p=some (t,q))/\kR p q t (rd p.e f (.expr d) ts)
 level:∀ k d ts p,k<=9->On p ts->rd p.e f (.level k (d+1)) ts≠.error bo->∃ t q,(∀ g,KF f<=g->mE g (.level k d) p=some (t,q))/\kR p q t (rd p.e f (.level k (d+1)) ts)
 loop:∀ k d out ts p,k < 9->On p ts->rd p.e f (.loop k (d+1) out) ts≠.error bo->∃ t q,(∀ g,KF f<=g->mE g (.loop k d out) p=some (t,q))/\kR p q t (rd p.e f (.loop k (d+1) out) ts)
 operand:∀ d ts p,On p ts->rd p.e f (.operand d) ts≠.error bo->∃ t q,(∀ g,KF f<=g->mE g (.operand d) p=some (t,q))/\kR p q t (rd p.e f (.operand d) ts)
 args:∀ d acc ts p,acc≠[]->On p ts->rd.args p.e f d acc ts≠.error bo->∃ t q,(∀ g,KF f<=g->rK g d acc p=some (t,q))/\kR p q t (rd.args p.e f d acc ts)
 args0:∀ d ts p,On p ts->rd.args p.e f d [] ts≠.error bo->∃ t q,(∀ g,KF f<=g->mL g d p=some (t,q))/\kR p q t (rd.args p.e f d [] ts)
theorem Dv:∀ k,(levels.getD k []).contains []=false:=by
 intro k
 have h:∀ l∈levels,l.contains ([]:ah)=false:=by decide
 rw [List.getD_eq_getElem?_getD]
 cases hk:levels[k]? with
 | none=>rfl
 | some l=>exact h l (br hk)
theorem up {f g:Nat} (h:KF (f+1)<=g):∃ g',g=g'+1/\KF f+1<=g':=⟨g - 1,by unfold KF at h;omega,by unfold KF at *;omega⟩
theorem je (f:Nat):JE f:=by
 induction f with
 | zero =>
  refine ⟨fun d ts p _ h=>absurd ?_ h,fun k d ts p _ _ h=>absurd ?_ h,fun k d out ts p _ _ h=>absurd ?_ h,fun d ts p _ h=>absurd ?_ h,fun d acc ts p _ _ h=>absurd ?_ h,fun d ts p _ h=>absurd ?_ h⟩ <;> simp [rd,rd.args]
 | succ f C =>
  refine ⟨fun d ts p hp h=>?_,fun k d ts p hk hp h=>?_,fun k d out ts p hk hp h=>?_,fun d ts p hp h=>?_,fun d acc ts p lF hp h=>?_,fun d ts p hp h=>?_⟩
  ·rw [rd] at h |-
   by_cases hd:d > 60
   ·rw [ae hd] at h |-;have hf:=hp.fail 9 p.place ao;refine ⟨T.zero,p.fail 9 p.place,fun g hg=>?_,by rw [<-hp.place];exact hf⟩;obtain ⟨g,rfl,hg⟩:=up hg;rw [mE];unfold RS.deep;rw [ae hd];exact (Dn hf.err).2.2 9 g 0 d rfl zf4
   ·rw [ab hd] at h |-;obtain ⟨t,q,D,X⟩:=C.level 0 d ts p aq hp h;refine ⟨t,q,fun g hg=>?_,X⟩;obtain ⟨g,rfl,hg⟩:=up hg;rw [mE];unfold RS.deep;rw [ab hd];exact D g aq
  ·rw [rd] at h |-
   by_cases h9:k=9
   ·rw [ae h9] at h |-;obtain ⟨t,q,D,X⟩:=C.operand (d+1) ts p hp h;refine ⟨t,q,fun g hg=>?_,X⟩;obtain ⟨g,rfl,hg⟩:=up hg;rw [mE,ae h9];exact D g aq
   ·rw [ab h9] at h |-
    cases he:rd p.e f (.level (k+1) (d+1)) ts with
    | error x =>
     rw [he] at h
     have hx:x≠bo:=fun h0=>h zfC
     obtain ⟨t,q,D,X⟩:=C.level (k+1) d ts p aq hp zfv;rw [he] at X;refine ⟨t,q,fun g hg=>?_,X⟩;obtain ⟨g,rfl,hg⟩:=up hg;rw [mE,ab h9,D g aq];exact zeW
    | ok r =>
     obtain ⟨t',r⟩:=r;rw [he] at h;simp only at h |-;obtain ⟨t,q,D,X⟩:=C.level (k+1) d ts p aq hp zfy;rw [he] at X;obtain ⟨rfl,X⟩:=X;rw [<-X.2.2] at h |-;obtain ⟨t3,q3,h3,h4⟩:=C.loop k d t r q aq X.1 h;refine ⟨t3,q3,fun g hg=>?_,kR.tr X h4⟩;obtain ⟨g,rfl,hg⟩:=up hg;rw [mE,ab h9,D g aq];exact h3 g aq
  ·cases ts with
   | nil =>
    rw [rd];refine ⟨out,p,fun g hg=>?_,rfl,hp.self⟩;obtain ⟨g,rfl,hg⟩:=up hg;rw [mE,ab];rw [hp.sign];rintro ⟨_,h0⟩;rw [show sign ([]:List Tok) 0=[] from rfl,Dv] at h0;cases h0
   | cons t r =>
    rw [rd] at h |-;have hs:p.sign 0=dE t:=hp.sign 0
    by_cases hc:t.kind=3/\t.s∈levels.getD k []
    ·rw [ae hc] at h |-
     have hn:=hp.next
     have vw:p.l[p.i]?=some t:=hp.at 0;have pz:p.code=0/\(levels.getD k []).contains (p.sign 0)=true:=⟨hp.code,by rw [hs];unfold dE;rw [ae hc.1];simpa using hc.2⟩;rw [show p.e=p.next.e from rfl] at h |-
     cases he:rd p.next.e f (.level (k+1) (d+1)) r with
     | error x =>
      rw [he] at h
      have hx:x≠bo:=fun h0=>h zfC
      obtain ⟨b,q,D,X⟩:=C.level (k+1) d r p.next aq hn.1 zfv
      rw [he] at X;refine ⟨one 6 t.at_ t.s [out,b],q,fun g hg=>?_,hn.tr (y:=.error x) X⟩;obtain ⟨g,rfl,hg⟩:=up hg;rw [mE,ae pz,vw];simp only;rw [D g aq];exact zeW
     | ok x =>
      obtain ⟨b',r'⟩:=x;rw [he] at h;simp only at h |-
      obtain ⟨b,q,D,X⟩:=C.level (k+1) d r p.next aq hn.1 zfy
      rw [he] at X;obtain ⟨rfl,X⟩:=X;rw [<-X.2.2] at h |-;obtain ⟨t3,q3,h3,h4⟩:=C.loop k d (one 6 t.at_ t.s [out,b]) r' q hk X.1 h;refine ⟨t3,q3,fun g hg=>?_,kR.tr (hn.tr X) h4⟩;obtain ⟨g,rfl,hg⟩:=up hg;rw [mE,ae pz,vw];simp only;rw [D g aq];exact h3 g aq
    ·rw [ab hc];refine ⟨out,p,fun g hg=>?_,rfl,hp.self⟩;obtain ⟨g,rfl,hg⟩:=up hg;rw [mE,ab];rintro ⟨_,h0⟩;rw [hs] at h0;unfold dE at h0;split at h0
     ·rename_i h3;exact hc ⟨h3,by simpa using h0⟩
     ·rw [Dv] at h0;cases h0
  ·rw [rd.eq_def] at h |-;simp only at h |-
   by_cases hd:d > 60
   ·rw [ae hd] at h |-;have hf:=hp.fail 9 p.place ao;refine ⟨T.zero,p.fail 9 p.place,fun g hg=>?_,by rw [<-hp.place];exact hf⟩;obtain ⟨g,rfl,hg⟩:=up hg;rw [mE];unfold RS.deep;rw [ae hd];simp [hf.err,vk hf.err]
   ·rw [ab hd] at h |-
    have eA:p.deep d=p:=by unfold RS.deep;rw [ab hd]
    cases ts with
    | nil =>
     simp only;have h0:p.l[p.i]?=none:=hp.at 0;refine ⟨T.zero,p.fail 7 p.place,fun g hg=>?_,?_⟩
     ·obtain ⟨g,rfl,hg⟩:=up hg;rw [mE];simp [eA,hp.code,h0]
     ·rw [hp.place];exact hp.fail 7 _ ao
    | cons t r =>
     simp only at h |-;have vw:p.l[p.i]?=some t:=hp.at 0
     have hn:=hp.next
     by_cases h3:t.kind=3
     ·rw [ae h3] at h |-
      have C1:¬ t.kind=1:=by omega
      have O6:¬ t.kind=2:=by omega
      by_cases hu:t.s=[45]\/t.s=[33]\/t.s=[126]
      ·rw [ae hu] at h |-;rw [show p.e=p.next.e from rfl] at h |-
       cases he:rd p.next.e f (.operand (d+1)) r with
       | error x =>
        rw [he] at h
        have hx:x≠bo:=fun h0=>h zfC
        obtain ⟨b,q,D,X⟩:=C.operand (d+1) r p.next hn.1 zfv
        rw [he] at X;refine ⟨one 5 t.at_ t.s [b],q,fun g hg=>?_,hn.tr (y:=.error x) X⟩;exact zcO
       | ok x =>
        obtain ⟨b',r'⟩:=x;rw [he] at h;simp only at h |-
        obtain ⟨b,q,D,X⟩:=C.operand (d+1) r p.next hn.1 zfy
        rw [he] at X;obtain ⟨rfl,X⟩:=X;refine ⟨one 5 t.at_ t.s [b],q,fun g hg=>?_,rfl,hn.tr X⟩;exact zcO
      ·rw [ab hu] at h |-
       by_cases hb:t.s=[40]
       ·rw [ae hb] at h |-;rw [show p.e=p.next.e from rfl] at h |-
        cases he:rd p.next.e f (.expr (d+1)) r with
        | error x =>
         rw [he] at h
         have hx:x≠bo:=fun h0=>h zfC
         obtain ⟨b,q,D,X⟩:=C.expr (d+1) r p.next hn.1 zfv
         rw [he] at X;refine ⟨b,q.aL [41],fun g hg=>?_,?_⟩
         ·exact zcC
         ·rw [iI (b9.err X) ao];exact hn.tr (y:=.error x) X
        | ok x =>
         obtain ⟨b',r'⟩:=x;rw [he] at h;simp only at h |-
         obtain ⟨b,q,D,X⟩:=C.expr (d+1) r p.next hn.1 zfy
         rw [he] at X;obtain ⟨rfl,X⟩:=X;have hm:=X.1.aL (s:=[41]) ao;have ba:=(hn.tr X).tr hm;rw [X.2.2] at ba;refine ⟨b,q.aL [41],fun g hg=>?_,?_⟩
         ·exact zcC
         ·cases xF:aL p.next.e [41] r' with
          | error x=>rw [xF] at ba;exact ba
          | ok r2=>exact zdD
       ·rw [ab hb] at h |-;refine ⟨T.zero,p.fail 7 t.at_,fun g hg=>?_,hp.fail 7 _ ao⟩;obtain ⟨g,rfl,hg⟩:=up hg;rw [mE];simp only [eA,hp.code,vw,if_true,ab C1,ab O6,ab hu,ab hb]
     ·rw [ab h3] at h |-
      by_cases D:t.kind=1
      ·rw [ae D];refine ⟨_,p.next,fun g hg=>?_,rfl,hn⟩;obtain ⟨g,rfl,hg⟩:=up hg;rw [mE];simp only [eA,hp.code,vw,if_true,ae D]
      ·rw [ab D] at h |-
       by_cases X:t.kind=2
       ·by_cases hlen:t.s.length > 12
        ·have dq:name p.e (t::r)=.error (8,t.at_):=by simp [name,X,hlen]
         rw [dq] at h |-;have hf:=hp.fail 8 t.at_ ao;refine ⟨one 2 t.at_ [] [],p.fail 8 t.at_,fun g hg=>?_,hf⟩;obtain ⟨g,rfl,hg⟩:=up hg
         have dU:p.name=([],p.fail 8 t.at_):=by unfold RS.name;simp [hp.code,vw,X,hlen]
         rw [mE];simp only [eA,hp.code,vw,if_true,ab D,ae X,dU];obtain ⟨g,rfl⟩:∃ g',g=g'+1:=⟨g - 1,by omega⟩;rw [mE,ab (by rw [nk hf.err];decide),ab (by rw [nk hf.err];decide)]
        ·have dq:name p.e (t::r)=.ok (t.s,r):=by simp [name,X,hlen]
         have dU:p.name=(t.s,p.next):=by unfold RS.name;simp [hp.code,vw,X,hlen]
         rw [dq] at h |-;simp only at h |-
         have ek:p.next.sign 0=sign r 0:=hn.1.sign 0
         have key:∀ (t':T) (q:RS),(∀ g,KF f<=g->mE (g+1) (.named t.at_ t.s d) p.next=some (t',q))->∀ g,KF (f+1)<=g->mE g (.operand d) p=some (t',q):=by
          intro t' q hk g hg;obtain ⟨g,rfl,hg⟩:=up hg;rw [mE];simp only [eA,hp.code,vw,if_true,ab D,ae X,dU];exact zeg
         by_cases hb:sign r 0=[91]
         ·rw [ae hb] at h |-;obtain ⟨tb,Dj,_⟩:=eh ao hb;have bZ:=hn.1;rw [Dj] at bZ
          have bZ:=hn.tr bZ.next
          rw [show p.e=p.next.next.e from rfl] at h |-
          cases he:rd p.next.next.e f (.expr (d+1)) r.tail with
          | error x =>
           rw [he] at h
           have hx:x≠bo:=fun h0=>h zfC
           obtain ⟨b,q,k1,k2⟩:=C.expr (d+1) r.tail p.next.next bZ.1 zfv
           rw [he] at k2;refine ⟨one 3 t.at_ t.s [b],q.aL [93],key _ _ fun g hg=>?_,?_⟩
           ·rw [mE,ae zf2,k1 g hg]
           ·rw [iI (b9.err k2) ao];exact bZ.tr (y:=.error x) k2
          | ok x =>
           obtain ⟨b',r'⟩:=x;rw [he] at h;simp only at h |-
           obtain ⟨b,q,k1,k2⟩:=C.expr (d+1) r.tail p.next.next bZ.1 zfy
           rw [he] at k2;obtain ⟨rfl,k2⟩:=k2;have hm:=k2.1.aL (s:=[93]) ao;have ba:=(bZ.tr k2).tr hm;rw [k2.2.2] at ba;refine ⟨one 3 t.at_ t.s [b],q.aL [93],key _ _ fun g hg=>?_,?_⟩
           ·rw [mE,ae zf2,k1 g hg]
           ·cases xF:aL p.next.next.e [93] r' with
            | error x=>rw [xF] at ba;exact ba
            | ok r2=>exact zdD
         ·rw [ab hb] at h |-
          by_cases hc:sign r 0=[40]
          ·rw [ae hc] at h |-;obtain ⟨tb,Dj,_⟩:=eh ao hc;have bZ:=hn.1;rw [Dj] at bZ
           have bZ:=hn.tr bZ.next
           rw [show p.e=p.next.next.e from rfl] at h |-
           cases he:rd.args p.next.next.e f (d+1) [] r.tail with
           | error x =>
            rw [he] at h
            have hx:x≠bo:=fun h0=>h zfC
            obtain ⟨b,q,k1,k2⟩:=C.args0 (d+1) r.tail p.next.next bZ.1 zfv
            rw [he] at k2;refine ⟨one 4 t.at_ t.s b,q,key _ _ fun g hg=>?_,bZ.tr (y:=.error x) k2⟩;exact zex
           | ok x =>
            obtain ⟨b',r'⟩:=x;rw [he] at h
            obtain ⟨b,q,k1,k2⟩:=C.args0 (d+1) r.tail p.next.next bZ.1 zfy
            rw [he] at k2;obtain ⟨rfl,k2⟩:=k2;refine ⟨one 4 t.at_ t.s b,q,key _ _ fun g hg=>?_,rfl,bZ.tr k2⟩;exact zex
          ·rw [ab hc] at h |-;refine ⟨one 2 t.at_ t.s [],p.next,key _ _ fun g hg=>?_,rfl,hn⟩;rw [mE,ab zf2,ab (by rw [ek];exact hc)]
       ·have dq:name p.e (t::r)=.error (7,t.at_):=by simp [name,X]
        rw [dq] at h |-;have:=hp.kinds t (br vw);omega
  ·rw [rd.args] at h |-;have ek:p.sign 0=sign ts 0:=hp.sign 0
   by_cases hb:sign ts 0=[41]
   ·rw [ae hb];have hm:=hp.aL (s:=[41]) ao;unfold Go.Xp.aL at hm;rw [ae hb] at hm;refine ⟨acc,p.aL [41],fun g hg=>?_,rfl,hm⟩;obtain ⟨g,rfl,hg⟩:=up hg;rw [rK,ab (by rw [ek,hb];decide)]
   ·rw [ab hb,ab lF] at h |-
    by_cases hc:sign ts 0=[44]
    ·have fD:Go.Xp.aL p.e [44] ts=.ok ts.tail:=by unfold Go.Xp.aL;rw [ae hc]
     rw [fD] at h |-;simp only at h |-;obtain ⟨tb,Dj,_⟩:=eh ao hc;have hn:=hp;rw [Dj] at hn
     have hn:=hn.next
     rw [show p.e=p.next.e from rfl] at h |-
     cases he:rd p.next.e f (.expr d) ts.tail with
     | error x =>
      rw [he] at h
      have hx:x≠bo:=fun h0=>h zfC
      obtain ⟨b,q,k1,k2⟩:=C.expr d ts.tail p.next hn.1 zfv
      rw [he] at k2;refine ⟨acc++[b],q,fun g hg=>?_,hn.tr (y:=.error x) k2⟩;obtain ⟨g,rfl,hg⟩:=up hg;rw [rK,ae (by rw [ek,hc]),k1 g aq];exact zcc
     | ok x =>
      obtain ⟨b',r'⟩:=x;rw [he] at h;simp only at h |-
      obtain ⟨b,q,k1,k2⟩:=C.expr d ts.tail p.next hn.1 zfy
      rw [he] at k2;obtain ⟨rfl,k2⟩:=k2;rw [<-k2.2.2] at h |-;obtain ⟨t3,q3,h3,h4⟩:=C.args d (acc++[b]) r' q zfu k2.1 h;refine ⟨t3,q3,fun g hg=>?_,kR.tr (hn.tr k2) h4⟩;obtain ⟨g,rfl,hg⟩:=up hg;rw [rK,ae (by rw [ek,hc]),k1 g aq];exact h3 g aq
    ·have fD:Go.Xp.aL p.e [44] ts=.error (7,place p.e ts):=by unfold Go.Xp.aL;rw [ab hc]
     rw [fD];have hm:=hp.aL (s:=[41]) ao;unfold Go.Xp.aL at hm;rw [ab hb] at hm;refine ⟨acc,p.aL [41],fun g hg=>?_,hm⟩;obtain ⟨g,rfl,hg⟩:=up hg;rw [rK,ab (by rw [ek];exact hc)]
  ·rw [rd.args] at h |-;have ek:p.sign 0=sign ts 0:=hp.sign 0
   by_cases hb:sign ts 0=[41]
   ·rw [ae hb];have hm:=hp.aL (s:=[41]) ao;unfold Go.Xp.aL at hm;rw [ae hb] at hm;refine ⟨[],p.aL [41],fun g hg=>?_,rfl,hm⟩;obtain ⟨g,rfl,hg⟩:=up hg;rw [mL,ae (by rw [ek,hb])]
   ·rw [ab hb,ae rfl] at h |-;simp only at h |-
    cases he:rd p.e f (.expr d) ts with
    | error x =>
     rw [he] at h
     have hx:x≠bo:=fun h0=>h zfC
     obtain ⟨b,q,k1,k2⟩:=C.expr d ts p hp zfv;rw [he] at k2;refine ⟨[b],q,fun g hg=>?_,k2⟩;obtain ⟨g,rfl,hg⟩:=up hg;rw [mL,ab zf2,k1 g aq];exact zcc
    | ok x =>
     obtain ⟨b',r'⟩:=x;rw [he] at h;simp only at h |-;obtain ⟨b,q,k1,k2⟩:=C.expr d ts p hp zfy;rw [he] at k2;obtain ⟨rfl,k2⟩:=k2;rw [<-k2.2.2] at h |-;obtain ⟨t3,q3,h3,h4⟩:=C.args d ([]++[b]) r' q zfu k2.1 h;refine ⟨t3,q3,fun g hg=>?_,kR.tr k2 h4⟩;obtain ⟨g,rfl,hg⟩:=up hg;rw [mL,ab zf2,k1 g aq];exact h3 g aq
end Go.Sp
namespace Go.Xp
theorem aai (e:Int):∀ f,(∀ j ts,rd e f j ts=.error bo\/rd e (f+1) j ts=rd e f j ts)/\(∀ d acc ts,rd.args e f d acc ts=.error bo\/rd.args e (f+1) d acc ts=rd.args e f d acc ts):=by
 intro f
 induction f with
 | zero=>exact ⟨fun j ts=>.inl (by simp [rd]),fun d acc ts=>.inl (by simp [rd.args])⟩
 | succ f ih =>
  obtain ⟨i1,i2⟩:=ih;refine ⟨fun j ts=>?_,fun d acc ts=>?_⟩
  ·rw [rd.eq_def e (f+1+1),rd.eq_def e (f+1)]
   cases j with
   | expr d =>
    simp only;split
    ·exact zbq
    ·exact i1 _ _
   | level k d =>
    simp only;split
    ·exact i1 _ _
    ·rcases i1 (.level (k+1) d) ts with h | h
     ·left;rw [h]
     ·rw [h]
      cases rd e f (.level (k+1) d) ts with
      | error x=>exact zbq
      | ok r=>exact i1 _ _
   | loop k d out =>
    cases ts with
    | nil=>exact zbq
    | cons t r =>
     simp only;split
     ·rcases i1 (.level (k+1) d) r with h | h
      ·left;rw [h]
      ·rw [h]
       cases rd e f (.level (k+1) d) r with
       | error x=>exact zbq
       | ok r=>exact i1 _ _
     ·exact zbq
   | operand d =>
    simp only;split
    ·exact zbq
    ·cases ts with
     | nil=>exact zbq
     | cons t r =>
      simp only;split
      ·split
       ·rcases i1 (.operand (d+1)) r with h | h
        ·left;rw [h]
        ·rw [h];exact zbq
       ·split
        ·rcases i1 (.expr (d+1)) r with h | h
         ·left;rw [h]
         ·rw [h];exact zbq
        ·exact zbq
      ·split
       ·exact zbq
       ·cases name e (t::r) with
        | error x=>exact zbq
        | ok y =>
         obtain ⟨s,r⟩:=y;simp only;split
         ·rcases i1 (.expr (d+1)) r.tail with h | h
          ·left;rw [h]
          ·rw [h];exact zbq
         ·split
          ·rcases i2 (d+1) [] r.tail with h | h
           ·left;rw [h]
           ·rw [h];exact zbq
          ·exact zbq
  ·rw [rd.args,rd.args];split
   ·exact zbq
   ·cases (if acc=[] then .ok ts else aL e [44] ts:Except Er (List Tok)) with
    | error x=>exact zbq
    | ok ts =>
     simp only
     rcases i1 (.expr d) ts with h | h
     ·left;rw [h]
     ·rw [h]
      cases rd e f (.expr d) ts with
      | error x=>exact zbq
      | ok y=>exact i2 _ _ _
theorem Ly {e:Int} {f f':Nat} {j:wb} {ts:List Tok} (h:rd e f j ts≠.error bo) (hf:f<=f'):rd e f' j ts=rd e f j ts:=by
 obtain ⟨k,rfl⟩:=Nat.exists_eq_add_of_le hf;clear hf
 induction k with
 | zero=>rfl
 | succ k ih =>
  rcases (aai e (f+k)).1 j ts with D | D
  ·rw [ih] at D;exact absurd D h
  ·rw [<-iy,D,ih]
theorem Ef {e:Int} {f d:Nat} {ts:List Tok} (h:20 * ts.length+12<=f):rd e f (.expr d) ts=expr e d ts:=by
 have h0:rd e (20 * ts.length+12) (.expr d) ts≠.error bo:=Bb (j:=.expr d) trivial (aH _);rw [Ly h0 h];unfold expr oN;exact (Ly h0 aq).symm
def at3 (t:T):Prop:=t.n.kind=3->∃ a,t.kids=[a]
theorem Qq (e:Int):∀ f j,(∀ k d out,j≠.loop k d out)->∀ t r,rd e f j []≠.ok (t,r):=by
 intro f
 induction f with
 | zero=>intro j _ t r h;simp [rd] at h
 | succ f ih =>
  intro j hj t r h;rw [rd.eq_def] at h
  cases j with
  | expr d =>
   simp only at h;split at h
   ·cases h
   ·exact ih _ (fun k d out h=>by cases h) _ _ h
  | level k d =>
   simp only at h;split at h
   ·exact ih _ (fun k d out h=>by cases h) _ _ h
   ·split at h
    ·cases h
    ·rename_i he;exact ih _ (fun k d out h=>by cases h) _ _ he
  | loop k d out=>exact hj _ _ _ rfl
  | operand d =>
   simp only at h;exact zeS
theorem Qp (e:Int):∀ f j ts t r,(∀ k d out,j=.loop k d out->at3 out)->rd e f j ts=.ok (t,r)->at3 t:=by
 intro f
 induction f with
 | zero=>intro j ts t r _ h;simp [rd] at h
 | succ f ih =>
  intro j ts t r hj h;rw [rd.eq_def] at h
  cases j with
  | expr d =>
   simp only at h;split at h
   ·cases h
   ·exact ih _ _ _ _ (fun k d out h=>by cases h) h
  | level k d =>
   simp only at h;split at h
   ·exact ih _ _ _ _ (fun k d out h=>by cases h) h
   ·split at h
    ·cases h
    ·rename_i out kv he;exact ih _ _ _ _ (fun k' d' abW nw=>by cases nw;exact ih _ _ _ _ (fun k d out h=>by cases h) he) h
  | loop k d out =>
   cases ts with
   | nil=>cases h;exact hj k d _ rfl
   | cons a r' =>
    simp only at h;split at h
    ·split at h
     ·cases h
     ·exact ih _ _ _ _ (fun k' d' abW nw=>by cases nw;intro h3;exact absurd h3 (by simp [one,T.n])) h
    ·cases h;exact hj k d _ rfl
  | operand d =>
   simp only at h;split at h
   ·cases h
   ·cases ts with
    | nil=>cases h
    | cons a r' =>
     simp only at h;split at h
     ·split at h
      ·split at h
       ·cases h
       ·cases h;intro h3;exact zeT
      ·split at h
       ·split at h
        ·cases h
        ·rename_i he;split at h
         ·cases h
         ·cases h;exact ih _ _ _ _ (fun k d out h=>by cases h) he
       ·cases h
     ·split at h
      ·cases h;intro h3;exact absurd h3 (by simp [T.n])
      ·split at h
       ·cases h
       ·split at h
        ·split at h
         ·cases h
         ·split at h
          ·cases h
          ·cases h;exact fun _=>⟨_,rfl⟩
        ·split at h
         ·split at h
          ·cases h
          ·cases h;intro h3;exact zeT
         ·cases h;intro h3;exact zeT
end Go.Xp
namespace Go.Sp
open Go.Xp
theorem ZY {d:Nat} {ts:List Tok} {p:RS} (hp:On p ts):∃ t q,mX d p=some (t,q)/\kR p q t (expr p.e d ts):=by
 have hl:ts.length<=p.l.length:=by rw [<-hp.rest,kA];omega
 have hf:rd p.e (20 * ts.length+12) (.expr d) ts≠.error bo:=Bb (j:=.expr d) trivial (aH _);obtain ⟨t,q,D,X⟩:=(je _).expr d ts p hp hf;rw [Ef (aH _)] at X;exact ⟨t,q,D _ (by unfold KF fe;omega),X⟩
theorem H8 {d:Nat} {p:RS} (h:p.code≠0):mX d p=some (T.zero,p):=Yn h (by unfold fe;omega)
theorem H7 {p:RS} (h:p.code≠0) {g d:Nat} (hg:2<=g):mS g (.block d) p=some (one 14 p.place [] [],p):=by
 obtain ⟨g,rfl⟩:∃ g',g=g'+2:=⟨g - 2,by omega⟩;rw [mS,sQ h,iI h ao];simp only [mB,h,false_and,if_false];rw [iI h ao]
theorem QD {p:RS} (h:p.code≠0) {g d:Nat} (hg:1<=g):mS g (.stmt d) p=some (one 12 p.place [] [T.zero],p):=by
 obtain ⟨g,rfl⟩:∃ g',g=g'+1:=⟨g - 1,by omega⟩;rw [mS,sQ h];simp only [nk h];rw [ab ao,ab ao,ab ao,ab (fun x=>h x.1),H8 h]
 have h03:¬ (T.zero.n.kind=3/\T.zero.n.at_=p.place/\p.sign 0=[61]):=fun x=>absurd x.1 ao
 simp only;rw [ab h03,iI h ao]
structure JS' (f:Nat):Prop where
 block:∀ d ts p,On p ts->rs p.e f (.block d) ts≠.error bo->∃ t q,(∀ g,KF f<=g->mS g (.block d) p=some (t,q))/\kR p q t (rs p.e f (.block d) ts)
 stmt:∀ d ts p,On p ts->rs p.e f (.stmt d) ts≠.error bo->∃ t q,(∀ g,KF f<=g->mS g (.stmt d) p=some (t,q))/\kR p q t (rs p.e f (.stmt d) ts)
 body:∀ d acc ts p,On p ts->rs.body p.e f d acc ts≠.error bo->∃ t q,(∀ g,KF f<=g->mB g d acc p=some (t,q))/\kR p (q.aL [125]) t (rs.body p.e f d acc ts)
theorem M0 {d:Nat} {ts:List Tok} {p:RS} (hp:On p ts):(∃ t q r,mX d p=some (t,q)/\expr p.e d ts=.ok (t,r)/\b9 p q (.ok r))\/(∃ t q x,mX d p=some (t,q)/\expr p.e d ts=.error x/\b9 p q (.error x)):=by
 obtain ⟨t,q,D,X⟩:=ZY (d:=d) hp
 cases he:expr p.e d ts with
 | error x=>rw [he] at X;exact .inr ⟨t,q,x,D,rfl,X⟩
 | ok y =>
  obtain ⟨t',r⟩:=y;rw [he] at X;obtain ⟨rfl,X⟩:=X;exact .inl ⟨t,q,r,D,rfl,X⟩
theorem A9 {s:ah} {ts:List Tok} {p:RS} (hp:On p ts) (hs:s≠[]):(∃ r,Go.Xp.aL p.e s ts=.ok r/\b9 p (p.aL s) (.ok r))\/(∃ x,Go.Xp.aL p.e s ts=.error x/\b9 p (p.aL s) (.error x)):=by
 have h:=hp.aL hs
 cases he:Go.Xp.aL p.e s ts with
 | ok r=>rw [he] at h;exact .inl ⟨r,rfl,h⟩
 | error x=>exact zey
theorem VK {ts:List Tok} {p:RS} (hp:On p ts):(∃ r,Go.Xp.name p.e ts=.ok (p.name.1,r)/\b9 p p.name.2 (.ok r))\/(∃ x,Go.Xp.name p.e ts=.error x/\b9 p p.name.2 (.error x)):=by
 rcases hp.name with h | h
 ·cases he:Go.Xp.name p.e ts with
  | ok y =>
   obtain ⟨s,r⟩:=y;rw [he] at h;obtain ⟨rfl,h⟩:=h;exact .inl ⟨r,rfl,h⟩
  | error x=>exact zey
 ·exact .inr h
theorem BZ {d:Nat} {ts:List Tok} {p:RS} {b:ah} (hp:On p ts) (hb:b≠[]):∃ t q,mX d p=some (t,q)/\((∃ r r',expr p.e d ts=.ok (t,r)/\Go.Xp.aL p.e b r=.ok r'/\b9 p (q.aL b) (.ok r'))\/(∃ r x,expr p.e d ts=.ok (t,r)/\Go.Xp.aL p.e b r=.error x/\b9 p (q.aL b) (.error x))\/(∃ x,expr p.e d ts=.error x/\b9 p (q.aL b) (.error x))):=by
 rcases M0 (d:=d) hp with ⟨t,q,r,D,X,h3⟩ | ⟨t,q,x,D,X,h3⟩
 ·refine ⟨t,q,D,?_⟩
  rcases A9 h3.1 hb with ⟨r',h4,h5⟩ | ⟨x,h4,h5⟩
  ·rw [h3.2.2] at h4;exact .inl ⟨r,r',X,h4,h3.tr h5⟩
  ·exact zeX
 ·exact ⟨t,q,D,.inr (.inr ⟨x,X,by rw [iI h3.err hb];exact h3⟩)⟩
theorem On.pW {ts:List Tok} {p:RS} (hp:On p ts):p.pW=(match ts with | t::_=>decide (t.kind=2) | []=>false):=by
 have h:=hp.at 0;rw [Nat.add_zero] at h;unfold RS.pW;rw [h]
 cases ts <;> rfl
theorem HT {d:Nat} {ts:List Tok} {p:RS} {a b:ah} (hp:On p ts) (ha:a≠[]) (hb:b≠[]):∃ t q,mX d (p.aL a)=some (t,q)/\((∃ r,inner p.e d a b ts=.ok (t,r)/\b9 p (q.aL b) (.ok r))\/∃ x,inner p.e d a b ts=.error x/\b9 p (q.aL b) (.error x)):=by
 unfold Go.Xp.inner
 rcases A9 hp ha with ⟨r,D,X⟩ | ⟨x,D,X⟩
 ·rw [D];obtain ⟨t,q,h3,h4⟩:=BZ (d:=d) (b:=b) X.1 hb;rw [X.2.2] at h4;refine ⟨t,q,h3,?_⟩;simp only
  rcases h4 with ⟨r,r',k1,k2,k3⟩ | ⟨r,x,k1,k2,k3⟩ | ⟨x,k1,k3⟩
  ·exact ze7
  ·rw [k1];simp only;rw [k2];exact zbi
  ·rw [k1];exact zbi
 ·rw [D];exact ⟨T.zero,p.aL a,H8 X.err,.inr ⟨x,rfl,by rw [iI X.err hb];exact X⟩⟩
theorem IF {d:Nat} {ts:List Tok} {p:RS} (hp:On p ts):∃ t q,mX d (p.name.2.aL [61])=some (t,q)/\((∃ r,mV p.e d ts=.ok ((p.name.1,t),r)/\b9 p (q.aL [59]) (.ok r))\/∃ x,mV p.e d ts=.error x/\b9 p (q.aL [59]) (.error x)):=by
 unfold Go.Xp.mV
 rcases VK hp with ⟨r,D,X⟩ | ⟨x,D,X⟩
 ·rw [D];obtain ⟨t,q,h3,h4⟩:=HT (d:=d) (a:=[61]) (b:=[59]) X.1 ao ao;rw [X.2.2] at h4;refine ⟨t,q,h3,?_⟩;simp only
  rcases h4 with ⟨r,k1,k3⟩ | ⟨x,k1,k3⟩
  ·rw [k1];exact .inl ⟨r,rfl,X.tr k3⟩
  ·rw [k1];exact zbi
 ·rw [D];refine ⟨T.zero,p.name.2,by rw [iI X.err ao];exact H8 X.err,.inr ⟨x,rfl,by rw [iI X.err ao];exact X⟩⟩
theorem js (f:Nat):JS' f:=by
 induction f with
 | zero=>exact ⟨fun d ts p _ h=>absurd zgo h,fun d ts p _ h=>absurd zgo h,fun d acc ts p _ h=>absurd (by simp [rs.body]) h⟩
 | succ f C =>
  refine ⟨fun d ts p hp h=>?_,fun d ts p hp h=>?_,fun d acc ts p hp h=>?_⟩
  ·rw [rs] at h |-
   by_cases hd:d > 60
   ·rw [ae hd] at h |-;have hf:=hp.fail 9 p.place ao;refine ⟨one 14 (p.fail 9 p.place).place [] [],p.fail 9 p.place,fun g hg=>?_,by rw [<-hp.place];exact hf⟩
    have XA:p.deep d=p.fail 9 p.place:=by unfold RS.deep;rw [ae hd]
    have:=H7 (g:=g) (d:=d) hf.err zf4;exact zc5
   ·rw [ab hd] at h |-
    have eA:p.deep d=p:=by unfold RS.deep;rw [ab hd]
    rcases A9 hp (s:=[123]) ao with ⟨r,D,X⟩ | ⟨x,D,X⟩
    ·rw [D] at h |-;simp only at h |-;rw [<-X.2.2] at h |-
     have hb:rs.body (p.aL [123]).e f (d+1) [] r≠.error bo:=fun h0=>h zfC
     obtain ⟨l,q,h3,h4⟩:=C.body (d+1) [] r (p.aL [123]) X.1 hb
     have c8:place (p.aL [123]).e ts=p.place:=by rw [X.2.2,hp.place]
     refine ⟨one 14 p.place [] l,q.aL [125],fun g hg=>?_,?_⟩
     ·obtain ⟨g,rfl,hg⟩:=up hg;rw [mS,eA,h3 g aq]
     ·cases he:rs.body (p.aL [123]).e f (d+1) [] r with
      | error x=>rw [he] at h4;exact X.tr (y:=.error x) h4
      | ok y=>exact zc1
    ·rw [D] at h |-;refine ⟨one 14 p.place [] [],p.aL [123],fun g hg=>?_,X⟩;obtain ⟨g,rfl,hg⟩:=up hg;rw [mS,eA];obtain ⟨g,rfl⟩:∃ g',g=g'+1:=⟨g - 1,by omega⟩;simp only [mB,X.err,false_and,if_false];rw [iI X.err ao]
  ·rw [rs] at h |-
   by_cases hd:d > 60
   ·rw [ae hd] at h |-;have hf:=hp.fail 9 p.place ao
    have XA:p.deep d=p.fail 9 p.place:=by unfold RS.deep;rw [ae hd]
    refine ⟨one 12 (p.fail 9 p.place).place [] [T.zero],p.fail 9 p.place,fun g hg=>?_,by rw [<-hp.place];exact hf⟩;have:=QD (g:=g) (d:=d) hf.err zf4;exact zc5
   ·rw [ab hd] at h |-
    have eA:p.deep d=p:=by unfold RS.deep;rw [ab hd]
    have ek:p.sign 0=sign ts 0:=hp.sign 0;have X0:p.sign 1=sign ts 1:=hp.sign 1;have c8:=hp.place;simp only at h |-
    by_cases hv:sign ts 0=nB
    ·rw [ae hv];obtain ⟨tv,Aj,_⟩:=eh ao hv;have hn:=hp;rw [Aj] at hn
     have hn:=hn.next
     rw [show p.e=p.next.e from rfl]
     rcases IF (d:=d+1) hn.1 with ⟨t,q,D,⟨r,X,h3⟩ | ⟨x,X,h3⟩⟩
     ·rw [X];refine ⟨one 13 p.place p.next.name.1 [t],q.aL [59],fun g hg=>?_,by rw [c8];rfl,hn.tr h3⟩;exact zez
     ·rw [X];refine ⟨one 13 p.place p.next.name.1 [t],q.aL [59],fun g hg=>?_,hn.tr (y:=.error x) h3⟩;exact zez
    rw [ab hv] at h |-
    by_cases hc:sign ts 0=gE\/sign ts 0=ig
    ·rw [ae hc] at h |-
     obtain ⟨tv,Aj,T0,vC⟩:∃ t,ts=t::ts.tail/\t.kind=3/\t.s=sign ts 0:=by
      rcases hc with hc | hc
      ·exact zet
      ·exact zet
     have hn:=hp;rw [Aj] at hn
     have hn:=hn.next
     have sE:p.ck=if sign ts 0=gE then 9 else 10:=by unfold RS.ck;rw [ek]
     have key:∀ (t:T) (q:RS),(∀ g,KF f<=g->mS (g+1) (.cond p.place d) p=some (t,q))->∀ g,KF (f+1)<=g->mS g (.stmt d) p=some (t,q):=by
      intro t q hk g hg;obtain ⟨g,rfl,hg⟩:=up hg;rw [mS,eA];rw [ab (by rw [ek];exact hv),ae (by rw [ek];exact hc)];exact zeg
     rcases HT (d:=d+1) (a:=[40]) (b:=[41]) hn.1 ao ao with ⟨c,q,D,⟨r,X,h3⟩ | ⟨x,X,h3⟩⟩
     ·rw [show p.next.e=p.e from rfl] at X;rw [X] at h |-;simp only at h |-;have h3:=hn.tr h3
      have hb:rs p.e f (.block (d+1)) r≠.error bo:=fun h0=>h zfC
      rw [<-h3.2.2] at hb;obtain ⟨b,q2,h4,h5⟩:=C.block (d+1) r (q.aL [41]) h3.1 hb;rw [h3.2.2] at h5
      cases he:rs p.e f (.block (d+1)) r with
      | error x =>
       rw [he] at h5;refine ⟨one p.ck p.place [] [c,b],q2,key _ _ fun g hg=>?_,h3.tr (y:=.error x) h5⟩;refine zeU ?_;rw [ab (by rw [nk (b9.err h5)];exact fun x=>absurd x.2 ao)]
      | ok y =>
       obtain ⟨b',r2⟩:=y;rw [he] at h5 h;obtain ⟨rfl,h5⟩:=h5;simp only at h |-;have h5:=h3.tr h5;have lY:q2.sign 0=sign r2 0:=h5.1.sign 0
       by_cases hi:sign ts 0=gE
       ·rw [ae hi] at h sE |-
        by_cases fB:sign r2 0=ju
        ·rw [ae fB] at h |-;obtain ⟨te,Pw,_⟩:=eh ao fB;have bZ:=h5.1;rw [Pw] at bZ
         have bZ:=h5.tr bZ.next
         have hb:rs p.e f (.block (d+1)) r2.tail≠.error bo:=fun h0=>h zfC
         rw [<-bZ.2.2] at hb
         obtain ⟨b2,q3,h6,h7⟩:=C.block (d+1) r2.tail q2.next bZ.1 hb
         rw [bZ.2.2] at h7;refine ⟨one p.ck p.place [] [c,b,b2],q3,key _ _ fun g hg=>?_,?_⟩
         ·refine zeU ?_;rw [ae ⟨sE,by rw [lY,fB]⟩,h6 g hg]
         ·cases nO:rs p.e f (.block (d+1)) r2.tail with
          | error x=>rw [nO] at h7;exact bZ.tr (y:=.error x) h7
          | ok y=>obtain ⟨b3,r3⟩:=y;rw [nO] at h7;obtain ⟨rfl,h7⟩:=h7;exact ⟨by rw [sE,c8],bZ.tr h7⟩
        ·rw [ab fB];refine ⟨one p.ck p.place [] [c,b],q2,key _ _ fun g hg=>?_,by rw [sE,c8],h5⟩;refine zeU ?_;rw [ab (fun x=>fB (by rw [<-lY];exact x.2))]
       ·rw [ab hi] at sE |-;refine ⟨one p.ck p.place [] [c,b],q2,key _ _ fun g hg=>?_,by rw [sE,c8],h5⟩;refine zeU ?_;rw [ab (by rw [sE];exact fun x=>absurd x.1 ao)]
     ·rw [show p.next.e=p.e from rfl] at X;rw [X] at h |-;have h3:=hn.tr (y:=.error x) h3;refine ⟨one p.ck p.place [] [c,one 14 (q.aL [41]).place [] []],q.aL [41],key _ _ fun g hg=>?_,h3⟩;rw [mS,D];simp only;rw [H7 h3.err zf4];simp only;rw [ab (by rw [nk h3.err];exact fun x=>absurd x.2 ao)]
    rw [ab hc] at h |-
    have Hw:¬ (p.sign 0=gE\/p.sign 0=ig):=by rw [ek];exact hc
    by_cases hr:sign ts 0=gU
    ·rw [ae hr];obtain ⟨tv,Aj,_⟩:=eh ao hr;have hn:=hp;rw [Aj] at hn
     have hn:=hn.next
     obtain ⟨t,q,D,X⟩:=BZ (d:=d+1) (b:=[59]) hn.1 ao;rw [show p.next.e=p.e from rfl] at X;refine ⟨one 11 p.place [] [t],q.aL [59],fun g hg=>?_,?_⟩
     ·obtain ⟨g,rfl,hg⟩:=up hg;rw [mS,eA];rw [ab (by rw [ek];exact hv),ab Hw,ae (by rw [ek,hr]),D]
     ·rcases X with ⟨r,r',X,h3,h4⟩ | ⟨r,x,X,h3,h4⟩ | ⟨x,X,h4⟩
      ·exact zfi
      ·exact zdk
      ·rw [X];exact zbS
    rw [ab hr] at h |-
    have KQ:¬ p.sign 0=gU:=by rw [ek];exact hr
    have KT:¬ p.sign 0=nB:=by rw [ek];exact hv
    have dq:=hp.pW
    cases ts with
    | nil =>
     have mQ:¬ (p.code=0/\p.pW=true/\p.sign 1=[61]):=fun hx=>by have:=hx.2.1;rw [dq] at this;cases this
     rcases M0 (d:=d+1) hp with ⟨t,q,r,D,X,h3⟩ | ⟨t,q,x,D,X,h3⟩
     ·exact ze8
     ·have mP:¬ (t.n.kind=3/\t.n.at_=p.place/\q.sign 0=[61]):=by rw [nk h3.err];exact fun x=>absurd x.2.2 ao
      refine ⟨one 12 p.place [] [t],q.aL [59],fun g hg=>?_,by unfold simple;rw [X,iI h3.err ao];exact h3⟩;exact zbs
    | cons a r0 =>
     simp only [simple] at h |-;simp only at dq
     by_cases iG:a.kind=2/\sign (a::r0) 1=[61]
     ·rw [ae iG];have mQ:p.code=0/\p.pW=true/\p.sign 1=[61]:=⟨hp.code,by rw [dq];simpa using iG.1,by rw [X0];exact iG.2⟩
      rcases IF (d:=d+1) hp with ⟨t,q,D,⟨r,X,h3⟩ | ⟨x,X,h3⟩⟩
      ·rw [X];refine ⟨one 7 p.place p.name.1 [t],q.aL [59],fun g hg=>?_,by rw [c8];rfl,h3⟩;exact zd7
      ·rw [X];refine ⟨one 7 p.place p.name.1 [t],q.aL [59],fun g hg=>?_,h3⟩;exact zd7
     ·rw [ab iG]
      have mQ:¬ (p.code=0/\p.pW=true/\p.sign 1=[61]):=fun hx=>iG ⟨by have:=hx.2.1;rw [dq] at this;simpa using this,by rw [<-X0];exact hx.2.2⟩
      have ME:p.place=a.at_:=c8
      rcases M0 (d:=d+1) hp with ⟨t,q,r,D,X,h3⟩ | ⟨t,q,x,D,X,h3⟩
      ·rw [X];simp only;have lY:q.sign 0=sign r 0:=h3.1.sign 0
       by_cases kc:t.n.kind=3/\t.n.at_=a.at_/\sign r 0=[61]
       ·rw [ae kc]
        have mP:t.n.kind=3/\t.n.at_=p.place/\q.sign 0=[61]:=by rw [ME,lY];exact kc
        obtain ⟨te,Pw,_⟩:=eh ao kc.2.2;have hn:=h3.1;rw [Pw] at hn
        have hn:=h3.tr hn.next
        obtain ⟨ix,z8⟩:=Qp _ _ _ _ _ _ (fun k d out hj=>by cases hj) X kc.1
        have mu:∀ kv,Go.Xp.inner p.e (d+1) [61] [59] kv=Go.Xp.inner p.e (d+1) [61] [59] kv:=fun _=>rfl
        have fD:Go.Xp.aL p.e [61] r=.ok r.tail:=by unfold Go.Xp.aL;rw [ae kc.2.2]
        obtain ⟨v,q2,h4,h5⟩:=BZ (d:=d+1) (b:=[59]) hn.1 ao;rw [hn.2.2] at h5;refine ⟨one 8 p.place t.n.s [ix,v],q2.aL [59],fun g hg=>?_,?_⟩
        ·obtain ⟨g,rfl,hg⟩:=up hg;rw [mS,eA];rw [ab KT,ab Hw,ab KQ,ab mQ,D];simp only;rw [ae mP,z8,h4]
        ·unfold Go.Xp.inner;rw [fD];simp only
         rcases h5 with ⟨r2,r',X,h3,h4⟩ | ⟨r2,x,X,h3,h4⟩ | ⟨x,X,h4⟩
         ·rw [X];simp only;rw [h3];exact ⟨by rw [ME,z8];rfl,hn.tr h4⟩
         ·exact zdk
         ·rw [X];exact zbS
       ·rw [ab kc]
        have mP:¬ (t.n.kind=3/\t.n.at_=p.place/\q.sign 0=[61]):=by rw [ME,lY];exact kc
        refine ⟨one 12 p.place [] [t],q.aL [59],fun g hg=>?_,?_⟩
        ·exact zbs
        ·rcases A9 h3.1 (s:=[59]) ao with ⟨r',h4,h5⟩ | ⟨x,h4,h5⟩
         ·rw [h3.2.2] at h4;rw [h4];exact ⟨by rw [ME],h3.tr h5⟩
         ·rw [h3.2.2] at h4;rw [h4];exact h3.tr (y:=.error x) h5
      ·rw [X]
       have mP:¬ (t.n.kind=3/\t.n.at_=p.place/\q.sign 0=[61]):=by rw [nk h3.err];exact fun x=>absurd x.2.2 ao
       refine ⟨one 12 p.place [] [t],q.aL [59],fun g hg=>?_,by rw [iI h3.err ao];exact h3⟩;exact zbs
  ·rw [rs.body] at h |-;have ek:p.sign 0=sign ts 0:=hp.sign 0
   by_cases hb:sign ts 0=[125]
   ·rw [ae hb];have hm:=hp.aL (s:=[125]) ao;unfold Go.Xp.aL at hm;rw [ae hb] at hm;refine ⟨acc,p,fun g hg=>?_,rfl,hm⟩;obtain ⟨g,rfl,hg⟩:=up hg;rw [mB,ab (fun h0=>h0.2 (by rw [ek,hb]))]
   ·rw [ab hb] at h |-
    have hs:rs p.e f (.stmt d) ts≠.error bo:=fun h0=>h zfC
    obtain ⟨a,q,D,X⟩:=C.stmt d ts p hp hs;have hc:p.code=0/\¬ p.sign 0=[125]:=⟨hp.code,by rw [ek];exact hb⟩
    cases he:rs p.e f (.stmt d) ts with
    | error x =>
     rw [he] at X h;refine ⟨acc++[a],q,fun g hg=>?_,by rw [iI (b9.err X) ao];exact X⟩;obtain ⟨g,rfl,hg⟩:=up hg;rw [mB,ae hc,D g aq];simp only;obtain ⟨g,rfl⟩:∃ g',g=g'+1:=⟨g - 1,by omega⟩;rw [mB,ab (fun h0=>b9.err X h0.1)]
    | ok y =>
     obtain ⟨a',r⟩:=y;rw [he] at X h;obtain ⟨rfl,X⟩:=X;simp only at h |-;rw [<-X.2.2] at h |-;obtain ⟨l,q3,h3,h4⟩:=C.body d (acc++[a]) r q X.1 h;refine ⟨l,q3,fun g hg=>?_,kR.tr X h4⟩;obtain ⟨g,rfl,hg⟩:=up hg;rw [mB,ae hc,D g aq];exact h3 g aq
end Go.Sp
namespace Go.Im
open Go.Xp Go.Sp
def tok (p:RS) (k:Nat):Tok:=match p.l[p.i+k]? with | some t=>t | none=>⟨0,0,[],p.e⟩
def is (p:RS) (k:Nat) (s:ah):Bool:=(tok p k).kind==3&&(tok p k).s==s
def ml (p:RS):RS:=p.fail 7 (tok p 0).at_
def want (p:RS) (s:ah):RS:=if p.code=0 then (if is p 0 s=true then p.next else ml p) else p
def bI (p:RS):RS:=if p.code=0 then (if (tok p 0).kind=2 then (if (tok p 0).s.length > 12 then p.fail 8 (tok p 0).at_ else p.next) else ml p) else p
def cw (p:RS) (d:Nat):RS:=if d > 60 then p.fail 9 (tok p 0).at_ else p
mutual
def iE:Nat->wb->RS->Option (T × RS)
 | 0,_,_=>none
 | f+1,.expr d,p=>if (cw p d).code=0 then iE f (.level 0 (d+1)) (cw p d) else some (T.zero,cw p d)
 | f+1,.level k d,p =>
  if k=9 then iE f (.operand d) p
  else match iE f (.level (k+1) d) p with
   | none=>none
   | some (out,p)=>iE f (.loop k d out) p
 | f+1,.loop k d out,p =>
  if p.code=0/\(tok p 0).kind=3/\(levels.getD k []).contains (tok p 0).s=true then
   match iE f (.level (k+1) d) p.next with
   | none=>none
   | some (b,q)=>iE f (.loop k d (one 6 (tok p 0).at_ (tok p 0).s [out,b])) q
  else some (out,p)
 | f+1,.operand d,p =>
  if (cw p d).code=0 then
   if is p 0 [45]=true\/is p 0 [33]=true\/is p 0 [126]=true then match iE f (.operand (d+1)) p.next with
    | none=>none
    | some (a,q)=>some (one 5 (tok p 0).at_ (tok p 0).s [a],q)
   else if (tok p 0).kind=1 then some (.mk ⟨1,(tok p 0).at_,(tok p 0).n,[],[]⟩ [],p.next)
   else if is p 0 [40]=true then match iE f (.expr (d+1)) p.next with
    | none=>none
    | some (a,q)=>some (a,want q [41])
   else if (bI p).code=0 then
    if is (bI p) 0 [91]=true then match iE f (.expr (d+1)) (bI p).next with
     | none=>none
     | some (a,q)=>some (one 3 (tok p 0).at_ (tok p 0).s [a],want q [93])
    else if is (bI p) 0 [40]=true then match iA f (d+1) [] (bI p).next with
     | none=>none
     | some (l,q)=>some (one 4 (tok p 0).at_ (tok p 0).s l,q)
    else some (one 2 (tok p 0).at_ (tok p 0).s [],bI p)
   else some (one 2 (tok p 0).at_ (tok p 0).s [],bI p)
  else some (T.zero,cw p d)
def iA:Nat->Nat->List T->RS->Option (List T × RS)
 | 0,_,_,_=>none
 | f+1,d,acc,p =>
  if p.code=0/\is p 0 [41]=false then match iE f (.expr d) (if acc.length=0 then p else want p [44]) with
   | none=>none
   | some (a,q)=>iA f d (acc++[a]) q
  else some (acc,want p [41])
end
section
variable {p q:RS} {ts r:List Tok}
theorem On.tok (h:On p ts) (k:Nat):tok p k=(match ts[k]? with | some t=>t | none=>⟨0,0,[],p.e⟩):=by unfold Im.tok;rw [h.at]
theorem On.vX (h:On p ts):(Im.tok p 0).at_=Go.Xp.place p.e ts:=by
 rw [On.tok h]
 cases ts with
 | nil=>rfl
 | cons t r=>rfl
theorem On.is (h:On p ts) (k:Nat) {s:ah} (hs:s≠[]):is p k s=decide (sign ts k=s):=by
 unfold Im.is
 have he:sign ts k=(if (Im.tok p k).kind=3 then (Im.tok p k).s else []):=by
  unfold Go.Xp.sign;rw [On.tok h]
  cases hk:ts[k]? with
  | none=>simp
  | some t=>rfl
 rw [he]
 by_cases h3:(Im.tok p k).kind=3
 ·rw [ae h3,Bool.eq_iff_iff];simp [h3]
 ·rw [ab h3,Bool.eq_iff_iff];simp [h3];exact hs
theorem gY (h:p.code≠0) (s:ah):want p s=p:=by unfold want;rw [ab h]
theorem CP (h:p.code≠0) (d:Nat):cw p d=p:=by unfold cw;split <;> simp [vk h]
theorem Qb (h:p.code≠0):bI p=p:=by unfold bI;rw [ab h]
theorem On.ml (h:On p ts):b9 p (ml p) (.error (7,place p.e ts)):=by
 unfold Im.ml;rw [On.vX h];exact h.fail 7 _ ao
theorem On.want (h:On p ts) {s:ah} (hs:s≠[]):b9 p (want p s) (Go.Xp.aL p.e s ts):=by
 unfold Im.want Go.Xp.aL;rw [ae h.code,On.is h 0 hs]
 by_cases h0:sign ts 0=s
 ·rw [ae zf5,ae h0];obtain ⟨t,ht,_⟩:=eh hs h0;rw [ht] at h
  exact h.next
 ·rw [ab zf5,ab h0];exact On.ml h
theorem n9 (h:On p ts) {s:ah} (hs:s≠[]):(∃ r,Go.Xp.aL p.e s ts=.ok r/\b9 p (Im.want p s) (.ok r))\/(∃ x,Go.Xp.aL p.e s ts=.error x/\b9 p (Im.want p s) (.error x)):=by
 have h:=On.want h hs
 cases he:Go.Xp.aL p.e s ts with
 | ok r=>rw [he] at h;exact .inl ⟨r,rfl,h⟩
 | error x=>exact zey
theorem vM (h:On p ts):(∃ r,Go.Xp.name p.e ts=.ok ((Im.tok p 0).s,r)/\b9 p (Im.bI p) (.ok r))\/(∃ x,Go.Xp.name p.e ts=.error x/\b9 p (Im.bI p) (.error x)):=by
 have ht:=On.tok h 0;have hw:=On.ml h;unfold Im.bI;rw [ae h.code]
 cases ts with
 | nil =>
  simp only [List.getElem?_nil] at ht;rw [ht];exact .inr ⟨_,rfl,by rw [ab zfu];exact hw⟩
 | cons t r =>
  simp only [getElem?_cons_zero] at ht;rw [ht];simp only [Go.Xp.name]
  by_cases X:t.kind=2
  ·rw [ae X,ae X]
   by_cases hl:t.s.length > 12
   ·rw [ae hl,ae hl];exact .inr ⟨_,rfl,h.fail 8 _ ao⟩
   ·rw [ab hl,ab hl];exact .inl ⟨r,rfl,h.next⟩
  ·rw [ab X,ab X];exact .inr ⟨_,rfl,hw⟩
theorem HS (h:p.code≠0) {g d:Nat} (hg:1<=g):iE g (.expr d) p=some (T.zero,p):=by
 obtain ⟨g,rfl⟩:∃ g',g=g'+1:=⟨g - 1,by omega⟩;rw [iE,CP h,ab h]
theorem PA (h:p.code≠0) {g k d:Nat} {out:T} (hg:1<=g):iE g (.loop k d out) p=some (out,p):=by
 obtain ⟨g,rfl⟩:∃ g',g=g'+1:=⟨g - 1,by omega⟩;rw [iE,ab (fun h0=>h h0.1)]
end
structure IE (f:Nat):Prop where
 expr:∀ d ts p,On p ts->rd p.e f (.expr d) ts≠.error bo->∃ t q,(∀ g,f+2<=g->iE g (.expr d) p=some (t,q))/\kR p q t (rd p.e f (.expr d) ts)
 level:∀ k d ts p,k<=9->On p ts->rd p.e f (.level k d) ts≠.error bo->∃ t q,(∀ g,f+2<=g->iE g (.level k d) p=some (t,q))/\kR p q t (rd p.e f (.level k d) ts)
 loop:∀ k d out ts p,k < 9->On p ts->rd p.e f (.loop k d out) ts≠.error bo->∃ t q,(∀ g,f+2<=g->iE g (.loop k d out) p=some (t,q))/\kR p q t (rd p.e f (.loop k d out) ts)
 operand:∀ d ts p,On p ts->rd p.e f (.operand d) ts≠.error bo->∃ t q,(∀ g,f+2<=g->iE g (.operand d) p=some (t,q))/\kR p q t (rd p.e f (.operand d) ts)
 args:∀ d acc ts p,On p ts->rd.args p.e f d acc ts≠.error bo->∃ t q,(∀ g,f+2<=g->iA g d acc p=some (t,q))/\kR p q t (rd.args p.e f d acc ts)
theorem nZ {f g:Nat} (h:f+1+2<=g):∃ g',g=g'+1/\f+2<=g':=⟨g - 1,by omega,by omega⟩
theorem ie (f:Nat):IE f:=by
 induction f with
 | zero =>
  refine ⟨fun d ts p _ h=>absurd ?_ h,fun k d ts p _ _ h=>absurd ?_ h,fun k d out ts p _ _ h=>absurd ?_ h,fun d ts p _ h=>absurd ?_ h,fun d acc ts p _ h=>absurd ?_ h⟩ <;> simp [rd,rd.args]
 | succ f C =>
  refine ⟨fun d ts p hp h=>?_,fun k d ts p hk hp h=>?_,fun k d out ts p hk hp h=>?_,fun d ts p hp h=>?_,fun d acc ts p hp h=>?_⟩
  ·rw [rd] at h |-
   by_cases hd:d > 60
   ·rw [ae hd] at h |-;have hf:=hp.fail 9 (tok p 0).at_ ao;refine ⟨T.zero,p.fail 9 (tok p 0).at_,fun g hg=>?_,by rw [<-On.vX hp];exact hf⟩;obtain ⟨g,rfl,hg⟩:=nZ hg
    have gQ:cw p d=p.fail 9 (tok p 0).at_:=by unfold cw;rw [ae hd]
    rw [iE,gQ,ab hf.err]
   ·rw [ab hd] at h |-
    have gQ:cw p d=p:=by unfold cw;rw [ab hd]
    obtain ⟨t,q,D,X⟩:=C.level 0 (d+1) ts p aq hp h;refine ⟨t,q,fun g hg=>?_,X⟩;obtain ⟨g,rfl,hg⟩:=nZ hg;rw [iE,gQ,ae hp.code];exact D g aq
  ·rw [rd] at h |-
   by_cases h9:k=9
   ·rw [ae h9] at h |-;obtain ⟨t,q,D,X⟩:=C.operand d ts p hp h;refine ⟨t,q,fun g hg=>?_,X⟩;obtain ⟨g,rfl,hg⟩:=nZ hg;rw [iE,ae h9];exact D g aq
   ·rw [ab h9] at h |-
    cases he:rd p.e f (.level (k+1) d) ts with
    | error x =>
     rw [he] at h
     have hx:x≠bo:=fun h0=>h zfC
     obtain ⟨t,q,D,X⟩:=C.level (k+1) d ts p aq hp zfv;rw [he] at X;refine ⟨t,q,fun g hg=>?_,X⟩;obtain ⟨g,rfl,hg⟩:=nZ hg;rw [iE,ab h9,D g aq];exact PA (b9.err X) aq
    | ok r =>
     obtain ⟨t',r⟩:=r;rw [he] at h;simp only at h |-;obtain ⟨t,q,D,X⟩:=C.level (k+1) d ts p aq hp zfy;rw [he] at X;obtain ⟨rfl,X⟩:=X;rw [<-X.2.2] at h |-;obtain ⟨t3,q3,h3,h4⟩:=C.loop k d t r q aq X.1 h;refine ⟨t3,q3,fun g hg=>?_,kR.tr X h4⟩;obtain ⟨g,rfl,hg⟩:=nZ hg;rw [iE,ab h9,D g aq];exact h3 g aq
  ·cases ts with
   | nil =>
    rw [rd];refine ⟨out,p,fun g hg=>?_,rfl,hp.self⟩;obtain ⟨g,rfl,hg⟩:=nZ hg;rw [iE,ab];rintro ⟨_,h0,_⟩;rw [On.tok hp] at h0;simp at h0
   | cons t r =>
    rw [rd] at h |-
    have ht:tok p 0=t:=by rw [On.tok hp];rfl
    by_cases hc:t.kind=3/\t.s∈levels.getD k []
    ·rw [ae hc] at h |-
     have hn:=hp.next
     have pz:p.code=0/\(tok p 0).kind=3/\(levels.getD k []).contains (tok p 0).s=true:=by rw [ht];exact ⟨hp.code,hc.1,by simpa using hc.2⟩
     rw [show p.e=p.next.e from rfl] at h |-
     cases he:rd p.next.e f (.level (k+1) d) r with
     | error x =>
      rw [he] at h
      have hx:x≠bo:=fun h0=>h zfC
      obtain ⟨b,q,D,X⟩:=C.level (k+1) d r p.next aq hn.1 zfv
      rw [he] at X;refine ⟨one 6 t.at_ t.s [out,b],q,fun g hg=>?_,hn.tr (y:=.error x) X⟩;obtain ⟨g,rfl,hg⟩:=nZ hg;rw [iE,ae pz,D g aq,ht];exact PA (b9.err X) aq
     | ok x =>
      obtain ⟨b',r'⟩:=x;rw [he] at h;simp only at h |-
      obtain ⟨b,q,D,X⟩:=C.level (k+1) d r p.next aq hn.1 zfy
      rw [he] at X;obtain ⟨rfl,X⟩:=X;rw [<-X.2.2] at h |-;obtain ⟨t3,q3,h3,h4⟩:=C.loop k d (one 6 t.at_ t.s [out,b]) r' q hk X.1 h;refine ⟨t3,q3,fun g hg=>?_,kR.tr (hn.tr X) h4⟩;obtain ⟨g,rfl,hg⟩:=nZ hg;rw [iE,ae pz,D g aq,ht];exact h3 g aq
    ·rw [ab hc];refine ⟨out,p,fun g hg=>?_,rfl,hp.self⟩;obtain ⟨g,rfl,hg⟩:=nZ hg;rw [iE,ab];rw [ht];rintro ⟨_,h0,D⟩;exact hc ⟨h0,by simpa using D⟩
  ·rw [rd.eq_def] at h |-;simp only at h |-
   by_cases hd:d > 60
   ·rw [ae hd] at h |-;have hf:=hp.fail 9 (tok p 0).at_ ao;refine ⟨T.zero,p.fail 9 (tok p 0).at_,fun g hg=>?_,by rw [<-On.vX hp];exact hf⟩;obtain ⟨g,rfl,hg⟩:=nZ hg
    have gQ:cw p d=p.fail 9 (tok p 0).at_:=by unfold cw;rw [ae hd]
    rw [iE,gQ,ab hf.err]
   ·rw [ab hd] at h |-
    have gQ:cw p d=p:=by unfold cw;rw [ab hd]
    have hi:∀ s:ah,s≠[]->is p 0 s=decide (sign ts 0=s):=fun s hs=>On.is hp 0 hs
    cases ts with
    | nil =>
     simp only
     have ht:tok p 0=⟨0,0,[],p.e⟩:=by rw [On.tok hp];rfl
     have cl:∀ s:ah,s≠[]->is p 0 s=false:=fun s hs=>by rw [hi s hs];exact decide_eq_false (fun h=>hs h.symm)
     have Df:bI p=p.fail 7 p.e:=by unfold bI;rw [ae hp.code,ht,ab zfu];unfold ml;rw [ht]
     have hf:=hp.fail 7 p.e ao;refine ⟨one 2 p.e [] [],p.fail 7 p.e,fun g hg=>?_,hf⟩;obtain ⟨g,rfl,hg⟩:=nZ hg;rw [iE,gQ,ae hp.code,cl _ ao,cl _ ao,cl _ ao,ab ao,ab (by rw [ht];simp),cl _ ao,ab ao,Df,ab hf.err,ht]
    | cons t r =>
     simp only at h |-
     have ht:tok p 0=t:=by rw [On.tok hp];rfl
     have hn:=hp.next
     by_cases h3:t.kind=3
     ·rw [ae h3] at h |-
      have ek:sign (t::r) 0=t.s:=by simp only [sign,getElem?_cons_zero,dE,h3,if_true]
      have C1:¬ t.kind=1:=by omega
      have qR:∀ s:ah,s≠[]->is p 0 s=decide (t.s=s):=fun s hs=>by rw [hi s hs,ek]
      by_cases hu:t.s=[45]\/t.s=[33]\/t.s=[126]
      ·rw [ae hu] at h |-
       have wA:is p 0 [45]=true\/is p 0 [33]=true\/is p 0 [126]=true:=by
        rw [qR _ ao,qR _ ao,qR _ ao];simpa using hu
       rw [show p.e=p.next.e from rfl] at h |-
       cases he:rd p.next.e f (.operand (d+1)) r with
       | error x =>
        rw [he] at h
        have hx:x≠bo:=fun h0=>h zfC
        obtain ⟨b,q,D,X⟩:=C.operand (d+1) r p.next hn.1 zfv
        rw [he] at X;refine ⟨one 5 t.at_ t.s [b],q,fun g hg=>?_,hn.tr (y:=.error x) X⟩;exact zeu
       | ok x =>
        obtain ⟨b',r'⟩:=x;rw [he] at h;simp only at h |-
        obtain ⟨b,q,D,X⟩:=C.operand (d+1) r p.next hn.1 zfy
        rw [he] at X;obtain ⟨rfl,X⟩:=X;refine ⟨one 5 t.at_ t.s [b],q,fun g hg=>?_,rfl,hn.tr X⟩;exact zeu
      ·rw [ab hu] at h |-
       have wA:¬ (is p 0 [45]=true\/is p 0 [33]=true\/is p 0 [126]=true):=by
        rw [qR _ ao,qR _ ao,qR _ ao];simpa using hu
       by_cases hb:t.s=[40]
       ·rw [ae hb] at h |-
        have bH:is p 0 [40]=true:=by rw [qR _ ao];simpa using hb
        rw [show p.e=p.next.e from rfl] at h |-
        cases he:rd p.next.e f (.expr (d+1)) r with
        | error x =>
         rw [he] at h
         have hx:x≠bo:=fun h0=>h zfC
         obtain ⟨b,q,D,X⟩:=C.expr (d+1) r p.next hn.1 zfv
         rw [he] at X;refine ⟨b,want q [41],fun g hg=>?_,?_⟩
         ·exact zcW
         ·rw [gY (b9.err X)];exact hn.tr (y:=.error x) X
        | ok x =>
         obtain ⟨b',r'⟩:=x;rw [he] at h;simp only at h |-
         obtain ⟨b,q,D,X⟩:=C.expr (d+1) r p.next hn.1 zfy
         rw [he] at X;obtain ⟨rfl,X⟩:=X;have ba:=(hn.tr X).tr (On.want X.1 (s:=[41]) ao);rw [X.2.2] at ba;refine ⟨b,want q [41],fun g hg=>?_,?_⟩
         ·exact zcW
         ·cases xF:aL p.next.e [41] r' with
          | error x=>rw [xF] at ba;exact ba
          | ok r2=>exact zdD
       ·rw [ab hb] at h |-
        have bH:¬ is p 0 [40]=true:=by rw [qR _ ao];simpa using hb
        have Df:bI p=p.fail 7 t.at_:=by unfold bI;rw [ae hp.code,ht,ab aq];unfold ml;rw [ht]
        have hf:=hp.fail 7 t.at_ ao;refine ⟨one 2 t.at_ t.s [],p.fail 7 t.at_,fun g hg=>?_,hf⟩;obtain ⟨g,rfl,hg⟩:=nZ hg;rw [iE,gQ,ae hp.code,ab wA,ab (by rw [ht];exact C1),ab bH,Df,ab hf.err,ht]
     ·rw [ab h3] at h |-
      have cl:∀ s:ah,s≠[]->is p 0 s=false:=fun s hs=>by unfold is;rw [ht];simp [h3]
      have wA:¬ (is p 0 [45]=true\/is p 0 [33]=true\/is p 0 [126]=true):=by rw [cl _ ao,cl _ ao,cl _ ao];decide
      by_cases D:t.kind=1
      ·rw [ae D];refine ⟨_,p.next,fun g hg=>?_,rfl,hn⟩;obtain ⟨g,rfl,hg⟩:=nZ hg;rw [iE,gQ,ae hp.code,ab wA,ae (by rw [ht];exact D),ht]
      ·rw [ab D] at h |-
       have dp:¬ (tok p 0).kind=1:=by rw [ht];exact D
       have bH:¬ is p 0 [40]=true:=by rw [cl _ ao];decide
       rcases vM hp with ⟨r',k1,k2⟩ | ⟨x,k1,k2⟩
       ·rw [k1] at h |-;simp only at h |-
        have r9:∀ s:ah,s≠[]->is (bI p) 0 s=decide (sign r' 0=s):=fun s hs=>On.is k2.1 0 hs
        by_cases hb:sign r' 0=[91]
        ·rw [ae hb] at h |-
         have xA:is (bI p) 0 [91]=true:=by rw [r9 _ ao];simpa using hb
         obtain ⟨tb,Dj,_⟩:=eh ao hb;have bZ:=k2.1;rw [Dj] at bZ
         have bZ:=k2.tr bZ.next
         rw [<-bZ.2.2] at h |-
         cases he:rd (bI p).next.e f (.expr (d+1)) r'.tail with
         | error x =>
          rw [he] at h
          have hx:x≠bo:=fun h0=>h zfC
          obtain ⟨b,q,k3,k4⟩:=C.expr (d+1) r'.tail (bI p).next bZ.1 zfv
          rw [he] at k4;refine ⟨one 3 t.at_ (tok p 0).s [b],want q [93],fun g hg=>?_,?_⟩
          ·exact zcv
          ·rw [gY (b9.err k4)];exact bZ.tr (y:=.error x) k4
         | ok x =>
          obtain ⟨b',r2⟩:=x;rw [he] at h;simp only at h |-
          obtain ⟨b,q,k3,k4⟩:=C.expr (d+1) r'.tail (bI p).next bZ.1 zfy
          rw [he] at k4;obtain ⟨rfl,k4⟩:=k4;have ba:=(bZ.tr k4).tr (On.want k4.1 (s:=[93]) ao);rw [k4.2.2] at ba;refine ⟨one 3 t.at_ (tok p 0).s [b],want q [93],fun g hg=>?_,?_⟩
          ·exact zcv
          ·cases xF:aL (bI p).next.e [93] r2 with
           | error x=>rw [xF] at ba;exact ba
           | ok r3=>exact zdD
        ·rw [ab hb] at h |-
         have xA:¬ is (bI p) 0 [91]=true:=by rw [r9 _ ao];simpa using hb
         by_cases hc:sign r' 0=[40]
         ·rw [ae hc] at h |-
          have qv:is (bI p) 0 [40]=true:=by rw [r9 _ ao];simpa using hc
          obtain ⟨tb,Dj,_⟩:=eh ao hc;have bZ:=k2.1;rw [Dj] at bZ
          have bZ:=k2.tr bZ.next
          rw [<-bZ.2.2] at h |-
          cases he:rd.args (bI p).next.e f (d+1) [] r'.tail with
          | error x =>
           rw [he] at h
           have hx:x≠bo:=fun h0=>h zfC
           obtain ⟨b,q,k3,k4⟩:=C.args (d+1) [] r'.tail (bI p).next bZ.1 zfv
           rw [he] at k4;refine ⟨one 4 t.at_ (tok p 0).s b,q,fun g hg=>?_,bZ.tr (y:=.error x) k4⟩;exact zcl
          | ok x =>
           obtain ⟨b',r2⟩:=x;rw [he] at h
           obtain ⟨b,q,k3,k4⟩:=C.args (d+1) [] r'.tail (bI p).next bZ.1 zfy
           rw [he] at k4;obtain ⟨rfl,k4⟩:=k4;refine ⟨one 4 t.at_ (tok p 0).s b,q,fun g hg=>?_,rfl,bZ.tr k4⟩;exact zcl
         ·rw [ab hc] at h |-
          have qv:¬ is (bI p) 0 [40]=true:=by rw [r9 _ ao];simpa using hc
          refine ⟨one 2 t.at_ (tok p 0).s [],bI p,fun g hg=>?_,rfl,k2⟩;obtain ⟨g,rfl,hg⟩:=nZ hg;rw [iE,gQ,ae hp.code,ab wA,ab dp,ab bH,ae k2.1.code,ab xA,ab qv];simp only [ht]
       ·rw [k1] at h |-;refine ⟨one 2 t.at_ (tok p 0).s [],bI p,fun g hg=>?_,k2⟩;obtain ⟨g,rfl,hg⟩:=nZ hg;rw [iE,gQ,ae hp.code,ab wA,ab dp,ab bH,ab k2.err];simp only [ht]
  ·rw [rd.args] at h |-;have hi:is p 0 [41]=decide (sign ts 0=[41]):=On.is hp 0 ao
   by_cases hb:sign ts 0=[41]
   ·rw [ae hb];have hm:=On.want hp (s:=[41]) ao;unfold Go.Xp.aL at hm;rw [ae hb] at hm;refine ⟨acc,want p [41],fun g hg=>?_,rfl,hm⟩;obtain ⟨g,rfl,hg⟩:=nZ hg;rw [iA,ab (fun h0=>by rw [hi] at h0;simp [hb] at h0)]
   ·rw [ab hb] at h |-;have pz:p.code=0/\is p 0 [41]=false:=⟨hp.code,by rw [hi];simpa using hb⟩;have key:∀ (p':RS) (kv:List Tok),b9 p p' (.ok kv)->(if acc.length=0 then p else want p [44])=p'->(match rd p.e f (.expr d) kv with | .error x=>.error x | .ok (a,ts)=>rd.args p.e f d (acc++[a]) ts:Rd (List T))≠.error bo ->
      ∃ t q,(∀ g,f+1+2<=g->iA g d acc p=some (t,q))/\kR p q t (match rd p.e f (.expr d) kv with | .error x=>.error x | .ok (a,ts)=>rd.args p.e f d (acc++[a]) ts):=by
     intro p' kv hn Hz h;rw [<-hn.2.2] at h |-
     cases he:rd p'.e f (.expr d) kv with
     | error x =>
      rw [he] at h
      have hx:x≠bo:=fun h0=>h zfC
      obtain ⟨b,q,k1,k2⟩:=C.expr d kv p' hn.1 zfv;rw [he] at k2;refine ⟨acc++[b],q,fun g hg=>?_,hn.tr (y:=.error x) k2⟩;obtain ⟨g,rfl,hg⟩:=nZ hg;rw [iA,ae pz,Hz,k1 g aq];simp only;obtain ⟨g,rfl⟩:∃ g',g=g'+1:=⟨g - 1,by omega⟩;rw [iA,ab (fun h0=>b9.err k2 h0.1),gY (b9.err k2)]
     | ok x =>
      obtain ⟨b',r'⟩:=x;rw [he] at h;simp only at h |-;obtain ⟨b,q,k1,k2⟩:=C.expr d kv p' hn.1 zfy;rw [he] at k2;obtain ⟨rfl,k2⟩:=k2;rw [<-k2.2.2] at h |-;obtain ⟨t3,q3,h3,h4⟩:=C.args d (acc++[b]) r' q k2.1 h;refine ⟨t3,q3,fun g hg=>?_,kR.tr (hn.tr k2) h4⟩;obtain ⟨g,rfl,hg⟩:=nZ hg;rw [iA,ae pz,Hz,k1 g aq];exact h3 g aq
    cases acc with
    | nil =>
     rw [ae rfl] at h |-;exact key p ts hp.self rfl h
    | cons a0 acc0 =>
     rw [ab zfu] at h |-
     rcases n9 hp (s:=[44]) ao with ⟨r',k1,k2⟩ | ⟨x,k1,k2⟩
     ·rw [k1] at h |-;exact key _ r' k2 (ab zfu) h
     ·rw [k1];refine ⟨a0::acc0++[T.zero],want p [44],fun g hg=>?_,k2⟩;obtain ⟨g,rfl,hg⟩:=nZ hg;rw [iA,ae pz,ab zfu,HS k2.err aq];simp only;obtain ⟨g,rfl⟩:∃ g',g=g'+1:=⟨g - 1,by omega⟩;rw [iA,ab (fun h0=>k2.err h0.1),gY k2.err]
end Go.Im
namespace Go.Xp
abbrev u9 (ts:List Tok):Prop:=ts.Pairwise fun a b=>a.at_ < b.at_
theorem yQ {e:Int} {s:ah} {ts r:List Tok} (hs:s≠[]) (h:aL e s ts=.ok r):∃ u,ts=u::r/\u.kind=3/\u.s=s:=by
 obtain ⟨D,X⟩:=Ez h;obtain ⟨t,h3,h4,h5⟩:=Go.Sp.eh hs X;exact ⟨t,by rw [D];exact h3,h4,h5⟩
theorem Ie {e:Int} {s:ah} {ts r:List Tok} (h:name e ts=.ok (s,r)):∃ u,ts=u::r/\u.kind=2/\u.s=s/\s.length<=12:=by
 cases ts with
 | nil=>cases h
 | cons t ts =>
  rw [name] at h;split at h
  ·split at h
   ·cases h
   ·cases h;exact ⟨t,rfl,by assumption,rfl,by omega⟩
  ·cases h
theorem vT {s:ah} {ts:List Tok} (hs:s≠[]) (h:sign ts 0=s):∃ u,ts=u::ts.tail/\u.kind=3/\u.s=s:=Go.Sp.eh hs h
def Wy (ts r:List Tok) (t:T):Prop:=∃ a pre,ts=a::(pre++r)/\(u9 ts->a.at_<=t.n.at_/\(t.n.kind=3->t.n.at_=a.at_->a.kind=2/\∃ YC w,a::pre=YC++[w]/\w.s=[93]))
def Ww (ts r:List Tok) (out t:T):Prop:=(t=out/\r=ts)\/(t.n.kind=6/\∃ pre,ts=pre++r/\∃ u∈ts,t.n.at_=u.at_)
theorem VZ (e:Int):∀ f,(∀ j ts t r,(∀ k d out,j≠.loop k d out)->rd e f j ts=.ok (t,r)->Wy ts r t)/\(∀ k d out ts t r,rd e f (.loop k d out) ts=.ok (t,r)->Ww ts r out t)/\(∀ d acc ts l r,rd.args e f d acc ts=.ok (l,r)->∃ pre,ts=pre++r/\pre≠[]):=by
 intro f
 induction f with
 | zero=>exact ⟨fun j ts t r _ h=>by simp [rd] at h,fun k d out ts t r h=>by simp [rd] at h,fun d acc ts l r h=>by simp [rd.args] at h⟩
 | succ f ih =>
  obtain ⟨i1,i2,i3⟩:=ih;refine ⟨fun j ts t r hj h=>?_,fun k d out ts t r h=>?_,fun d acc ts l r h=>?_⟩
  ·rw [rd.eq_def] at h
   cases j with
   | expr d =>
    simp only at h;split at h
    ·cases h
    ·exact i1 _ _ _ _ (fun k d out h=>by cases h) h
   | level k d =>
    simp only at h;split at h
    ·exact i1 _ _ _ _ (fun k d out h=>by cases h) h
    ·split at h
     ·cases h
     ·rename_i out kv he;have D:=i1 _ _ _ _ (fun k d out h=>by cases h) he;have X:=i2 _ _ _ _ _ _ h
      rcases X with ⟨rfl,rfl⟩ | ⟨h3,EC,rfl,u,hu,h4⟩
      ·exact D
      ·obtain ⟨a,pre,rfl,h5⟩:=D;refine ⟨a,pre++EC,by simp,fun hs=>⟨?_,fun h6=>by omega⟩⟩;rw [h4];rw [u9,List.pairwise_cons] at hs;exact Int.le_of_lt (hs.1 u (List.mem_append_right _ hu))
   | loop k d out=>exact absurd rfl (hj _ _ _)
   | operand d =>
    simp only at h;split at h
    ·cases h
    ·cases ts with
     | nil=>cases h
     | cons a r' =>
      simp only at h;split at h
      ·rename_i h3;split at h
       ·split at h
        ·cases h
        ·rename_i b r2 he;cases h;obtain ⟨a2,pre,rfl,_⟩:=i1 _ _ _ _ (fun k d out h=>by cases h) he;exact ⟨a,a2::pre,by simp,fun _=>⟨by simp [one,T.n],fun h=>by simp [one,T.n] at h⟩⟩
       ·split at h
        ·split at h
         ·cases h
         ·rename_i b r2 he;split at h
          ·cases h
          ·rename_i r3 hm;cases h;obtain ⟨a2,pre,rfl,h5⟩:=i1 _ _ _ _ (fun k d out h=>by cases h) he;obtain ⟨w,rfl,_,_⟩:=yQ ao hm;refine ⟨a,a2::(pre++[w]),by simp,fun hs=>?_⟩;rw [u9,List.pairwise_cons] at hs;have h6:=(h5 hs.2).1;have h7:=hs.1 a2 zfu;exact ⟨by omega,fun _ h8=>by omega⟩
        ·cases h
      ·split at h
       ·cases h;exact ⟨a,[],rfl,fun _=>⟨Int.le_refl _,fun h=>by simp [T.n] at h⟩⟩
       ·split at h
        ·cases h
        ·rename_i s r2 hn;obtain ⟨u,hu,hk,_⟩:=Ie hn;cases hu;split at h
         ·rename_i hs;obtain ⟨w,hw,_,_⟩:=vT ao hs;split at h
          ·cases h
          ·rename_i b r3 he;split at h
           ·cases h
           ·rename_i r4 hm;cases h;obtain ⟨a2,pre,h4,h5⟩:=i1 _ _ _ _ (fun k d out h=>by cases h) he;obtain ⟨z,rfl,_,hz⟩:=yQ ao hm;refine ⟨a,w::a2::(pre++[z]),by rw [hw,h4];simp,fun _=>⟨Int.le_refl _,fun _ _=>⟨hk,a::w::a2::pre,z,by simp,hz⟩⟩⟩
         ·split at h
          ·rename_i hs;obtain ⟨w,hw,_,_⟩:=vT ao hs;split at h
           ·cases h
           ·rename_i l r3 he;cases h;obtain ⟨pre,h4,_⟩:=i3 _ _ _ _ _ he;exact ⟨a,w::pre,by rw [hw,h4];simp,fun _=>⟨Int.le_refl _,fun h=>by simp [one,T.n] at h⟩⟩
          ·cases h;exact ⟨a,[],rfl,fun _=>⟨Int.le_refl _,fun h=>by simp [one,T.n] at h⟩⟩
  ·cases ts with
   | nil=>rw [rd] at h;cases h;exact .inl ⟨rfl,rfl⟩
   | cons a r' =>
    rw [rd] at h;split at h
    ·split at h
     ·cases h
     ·rename_i b r2 he;obtain ⟨a2,pre,rfl,_⟩:=i1 _ _ _ _ (fun k d out h=>by cases h) he
      rcases i2 _ _ _ _ _ _ h with ⟨rfl,rfl⟩ | ⟨h3,EC,rfl,u,hu,h4⟩
      ·exact .inr ⟨rfl,a::a2::pre,by simp,a,by simp,rfl⟩
      ·exact .inr ⟨h3,a::a2::(pre++EC),by simp,u,by simp at hu |-;rcases hu with h | h <;> simp [h],h4⟩
    ·cases h;exact .inl ⟨rfl,rfl⟩
  ·rw [rd.args] at h;split at h
   ·rename_i hs;obtain ⟨w,hw,_,_⟩:=vT ao hs;cases h;exact ⟨[w],by rw [hw];rfl,by simp⟩
   ·split at h
    ·cases h
    ·rename_i kv vC;split at h
     ·cases h
     ·rename_i a r' he;obtain ⟨a2,pre,h4,_⟩:=i1 _ _ _ _ (fun k d out h=>by cases h) he;obtain ⟨EC,h5,_⟩:=i3 _ _ _ _ _ h;split at vC
      ·cases vC;exact ⟨a2::(pre++EC),by rw [h4,h5];simp,by simp⟩
      ·obtain ⟨w,hw,_,_⟩:=yQ ao vC;exact ⟨w::a2::(pre++EC),by rw [hw,h4,h5];simp,by simp⟩
theorem OH {e:Int} {d:Nat} {ts r:List Tok} {t:T} (h:expr e d ts=.ok (t,r)):Wy ts r t:=(VZ e _).1 _ _ _ _ (fun k d out h=>by cases h) h
end Go.Xp
namespace Go.Im
open Go.Xp Go.Sp
def wH (p:RS):ah:=match p.l[p.i - 1]? with | some t=>t.s | none=>[]
def yY (p q:RS) (e:T):Prop:=e.n.kind=3/\q.code=0/\wH q=[93]/\e.n.at_=(tok p 0).at_/\(tok p 0).kind=2/\is q 0 [61]=true
instance (p q:RS) (e:T):Decidable (yY p q e):=by unfold yY;infer_instance
mutual
def iS:Nat->ur->RS->Option (T × RS)
 | 0,_,_=>none
 | f+1,.block d,p =>
  if (cw p d).code=0 then match iB f (d+1) [] (want p [123]) with
   | none=>none
   | some (l,q)=>some (one 14 (tok p 0).at_ [] l,want q [125])
  else some (one 14 (tok p 0).at_ [] [],cw p d)
 | f+1,.stmt d,p =>
  if (cw p d).code=0 then
   if is p 0 nB=true then match iE f (.expr (d+1)) (want (bI p.next) [61]) with
    | none=>none
    | some (e,q)=>some (one 13 (tok p 0).at_ (tok p.next 0).s [e],want q [59])
   else if is p 0 gE=true\/is p 0 ig=true then match iE f (.expr (d+1)) (want p.next [40]) with
    | none=>none
    | some (c,q)=>match iS f (.block (d+1)) (want q [41]) with
     | none=>none
     | some (b,q) =>
      if is p 0 gE=true/\q.code=0/\is q 0 ju=true then match iS f (.block (d+1)) q.next with
       | none=>none
       | some (b2,q)=>some (one 9 (tok p 0).at_ [] [c,b,b2],q)
      else some (one (if is p 0 gE=true then 9 else 10) (tok p 0).at_ [] [c,b],q)
   else if is p 0 gU=true then match iE f (.expr (d+1)) p.next with
    | none=>none
    | some (e,q)=>some (one 11 (tok p 0).at_ [] [e],want q [59])
   else if (tok p 0).kind=2/\is p 1 [61]=true then match iE f (.expr (d+1)) (want (bI p) [61]) with
    | none=>none
    | some (e,q)=>some (one 7 (tok p 0).at_ (tok p 0).s [e],want q [59])
   else match iE f (.expr (d+1)) p with
    | none=>none
    | some (e,q) =>
     if yY p q e then match e.kids,iE f (.expr (d+1)) (want q [61]) with
      | a::_,some (v,q)=>some (one 8 (tok p 0).at_ e.n.s [a,v],want q [59])
      | _,_=>none
     else some (one 12 (tok p 0).at_ [] [e],want q [59])
  else some (T.zero,cw p d)
def iB:Nat->Nat->List T->RS->Option (List T × RS)
 | 0,_,_,_=>none
 | f+1,d,acc,p=>if p.code=0/\is p 0 [125]=false then match iS f (.stmt d) p with
   | none=>none
   | some (a,q)=>iB f d (acc++[a]) q
  else some (acc,p)
end
def KI (p:RS) (f:Nat):Nat:=f+20 * p.l.length+40
section
variable {p q:RS} {ts r:List Tok}
theorem MK {d g:Nat} (hp:On p ts) (hg:20 * p.l.length+20<=g):∃ t q,(∀ g,20 * p.l.length+20<=g->iE g (.expr d) p=some (t,q))/\((∃ r,expr p.e d ts=.ok (t,r)/\b9 p q (.ok r))\/(∃ x,expr p.e d ts=.error x/\b9 p q (.error x))):=by
 have hl:ts.length<=p.l.length:=by rw [<-hp.rest,kA];omega
 have hf:rd p.e (20 * ts.length+12) (.expr d) ts≠.error bo:=Bb (j:=.expr d) trivial (aH _);obtain ⟨t,q,D,X⟩:=(ie _).expr d ts p hp hf;rw [Ef (aH _)] at X;refine ⟨t,q,fun g hg=>D g aq,?_⟩
 cases he:expr p.e d ts with
 | error x=>rw [he] at X;exact .inr ⟨x,rfl,X⟩
 | ok y=>obtain ⟨t',r⟩:=y;rw [he] at X;obtain ⟨rfl,X⟩:=X;exact .inl ⟨r,rfl,X⟩
theorem MJ {d:Nat} {b:ah} (hp:On p ts) (hb:b≠[]):∃ t q,(∀ g,20 * p.l.length+20<=g->iE g (.expr d) p=some (t,q))/\((∃ r r',expr p.e d ts=.ok (t,r)/\Go.Xp.aL p.e b r=.ok r'/\b9 p (want q b) (.ok r'))\/(∃ r x,expr p.e d ts=.ok (t,r)/\Go.Xp.aL p.e b r=.error x/\b9 p (want q b) (.error x))\/(∃ x,expr p.e d ts=.error x/\b9 p (want q b) (.error x))):=by
 obtain ⟨t,q,D,X⟩:=MK (d:=d) hp (aH _);refine ⟨t,q,D,?_⟩
 rcases X with ⟨r,X,h3⟩ | ⟨x,X,h3⟩
 ·rcases n9 h3.1 hb with ⟨r',h4,h5⟩ | ⟨x,h4,h5⟩
  ·rw [h3.2.2] at h4;exact .inl ⟨r,r',X,h4,h3.tr h5⟩
  ·exact zeX
 ·exact .inr (.inr ⟨x,X,by rw [gY h3.err];exact h3⟩)
theorem Pz {d:Nat} {a b:ah} (hp:On p ts) (ha:a≠[]) (hb:b≠[]):∃ t q,(∀ g,20 * p.l.length+20<=g->iE g (.expr d) (want p a)=some (t,q))/\((∃ r,inner p.e d a b ts=.ok (t,r)/\b9 p (want q b) (.ok r))\/∃ x,inner p.e d a b ts=.error x/\b9 p (want q b) (.error x)):=by
 unfold Go.Xp.inner
 rcases n9 hp ha with ⟨r,D,X⟩ | ⟨x,D,X⟩
 ·rw [D];obtain ⟨t,q,h3,h4⟩:=MJ (d:=d) (b:=b) X.1 hb;rw [X.2.2] at h4;rw [X.2.1] at h3;refine ⟨t,q,h3,?_⟩;simp only
  rcases h4 with ⟨r,r',k1,k2,k3⟩ | ⟨r,x,k1,k2,k3⟩ | ⟨x,k1,k3⟩
  ·exact ze7
  ·rw [k1];simp only;rw [k2];exact zbi
  ·rw [k1];exact zbi
 ·rw [D];exact ⟨T.zero,want p a,fun g hg=>HS X.err aq,.inr ⟨x,rfl,by rw [gY X.err];exact X⟩⟩
theorem PF {d:Nat} (hp:On p ts):∃ t q,(∀ g,20 * p.l.length+20<=g->iE g (.expr d) (want (bI p) [61])=some (t,q))/\((∃ r,mV p.e d ts=.ok (((tok p 0).s,t),r)/\b9 p (want q [59]) (.ok r))\/∃ x,mV p.e d ts=.error x/\b9 p (want q [59]) (.error x)):=by
 unfold Go.Xp.mV
 rcases vM hp with ⟨r,D,X⟩ | ⟨x,D,X⟩
 ·rw [D];obtain ⟨t,q,h3,h4⟩:=Pz (d:=d) (a:=[61]) (b:=[59]) X.1 ao ao;rw [X.2.2] at h4;rw [X.2.1] at h3;refine ⟨t,q,h3,?_⟩;simp only
  rcases h4 with ⟨r,k1,k3⟩ | ⟨x,k1,k3⟩
  ·rw [k1];exact .inl ⟨r,rfl,X.tr k3⟩
  ·rw [k1];exact zbi
 ·rw [D];refine ⟨T.zero,bI p,fun g hg=>by rw [gY X.err];exact HS X.err aq,.inr ⟨x,rfl,by rw [gY X.err];exact X⟩⟩
theorem R8 (h:p.code≠0) {g d:Nat} (hg:1<=g):iS g (.block d) p=some (one 14 (tok p 0).at_ [] [],p):=by
 obtain ⟨g,rfl⟩:∃ g',g=g'+1:=⟨g - 1,by omega⟩;rw [iS,CP h,ab h]
theorem On.srt (h:On p ts) (hs:u9 p.l):u9 ts:=by rw [<-h.rest];exact hs.drop
theorem On.last (h:On p ts) {pre r:List Tok} {w:Tok} (hq:b9 p q (.ok r)) (ht:ts=(pre++[w])++r):wH q=w.s:=by
 have D:p.l=p.l.take p.i++(pre++w::r):=by
  have:=List.take_append_drop p.i p.l;rw [h.rest,ht] at this;simp only [fP,List.singleton_append,cons_append,nil_append] at this;exact this.symm
 have hr:=congrArg List.length hq.1.rest;have hl:=congrArg List.length D;have hle:=hq.1.le;have c8:=h.le;rw [hq.2.1] at hr hle;simp only [kA,aO,length_cons,gy] at hr hl;unfold wH;rw [hq.2.1,D,fA zfQ,fA zfQ]
 have:q.i - 1 - (p.l.take p.i).length - pre.length=0:=by rw [gy];omega
 rw [this];rfl
end
structure IS' (f:Nat):Prop where
 block:∀ d ts p,On p ts->u9 p.l->rs p.e f (.block d) ts≠.error bo->∃ t q,(∀ g,KI p f<=g->iS g (.block d) p=some (t,q))/\kR p q t (rs p.e f (.block d) ts)
 stmt:∀ d ts p,On p ts->u9 p.l->rs p.e f (.stmt d) ts≠.error bo->∃ t q,(∀ g,KI p f<=g->iS g (.stmt d) p=some (t,q))/\kR p q t (rs p.e f (.stmt d) ts)
 body:∀ d acc ts p,On p ts->u9 p.l->rs.body p.e f d acc ts≠.error bo->∃ t q,(∀ g,KI p f<=g->iB g d acc p=some (t,q))/\kR p (want q [125]) t (rs.body p.e f d acc ts)
theorem qX {p:RS} {f g:Nat} (h:KI p (f+1)<=g):∃ g',g=g'+1/\KI p f<=g'/\20 * p.l.length+20<=g':=⟨g - 1,by unfold KI at h;omega,by unfold KI at *;omega,by unfold KI at h;omega⟩
theorem Gs {p q:RS} (h:q.l=p.l) (f:Nat):KI q f=KI p f:=by unfold KI;rw [h]
theorem is_ (f:Nat):IS' f:=by
 induction f with
 | zero=>exact ⟨fun d ts p _ _ h=>absurd zgo h,fun d ts p _ _ h=>absurd zgo h,fun d acc ts p _ _ h=>absurd (by simp [rs.body]) h⟩
 | succ f C =>
  refine ⟨fun d ts p hp hs h=>?_,fun d ts p hp hs h=>?_,fun d acc ts p hp hs h=>?_⟩
  ·rw [rs] at h |-;have c8:=On.vX hp
   by_cases hd:d > 60
   ·rw [ae hd] at h |-;have hf:=hp.fail 9 (tok p 0).at_ ao;refine ⟨one 14 (tok p 0).at_ [] [],p.fail 9 (tok p 0).at_,fun g hg=>?_,by rw [<-c8];exact hf⟩;obtain ⟨g,rfl,nu,gR⟩:=qX hg
    have gQ:cw p d=p.fail 9 (tok p 0).at_:=by unfold cw;rw [ae hd]
    rw [iS,gQ,ab hf.err]
   ·rw [ab hd] at h |-
    have gQ:cw p d=p:=by unfold cw;rw [ab hd]
    rcases n9 hp (s:=[123]) ao with ⟨r,D,X⟩ | ⟨x,D,X⟩
    ·rw [D] at h |-;simp only at h |-
     have hb:rs.body p.e f (d+1) [] r≠.error bo:=fun h0=>h zfC
     rw [<-X.2.2] at hb;obtain ⟨l,q,h3,h4⟩:=C.body (d+1) [] r (want p [123]) X.1 (by rw [X.2.1];exact hs) hb;rw [X.2.2] at h4;rw [Gs X.2.1] at h3;refine ⟨one 14 (tok p 0).at_ [] l,want q [125],fun g hg=>?_,?_⟩
     ·obtain ⟨g,rfl,nu,gR⟩:=qX hg;rw [iS,gQ,ae hp.code,h3 g aq]
     ·cases he:rs.body p.e f (d+1) [] r with
      | error x=>rw [he] at h4;exact X.tr (y:=.error x) h4
      | ok y=>exact zc1
    ·rw [D] at h |-;refine ⟨one 14 (tok p 0).at_ [] [],want p [123],fun g hg=>?_,X⟩;obtain ⟨g,rfl,nu,gR⟩:=qX hg;rw [iS,gQ,ae hp.code];obtain ⟨g,rfl⟩:∃ g',g=g'+1:=⟨g - 1,by omega⟩;rw [iB,ab (fun h0=>X.err h0.1)];simp only;rw [gY X.err]
  ·rw [rs] at h |-;have c8:=On.vX hp
   by_cases hd:d > 60
   ·rw [ae hd] at h |-;have hf:=hp.fail 9 (tok p 0).at_ ao;refine ⟨T.zero,p.fail 9 (tok p 0).at_,fun g hg=>?_,by rw [<-c8];exact hf⟩;obtain ⟨g,rfl,nu,gR⟩:=qX hg
    have gQ:cw p d=p.fail 9 (tok p 0).at_:=by unfold cw;rw [ae hd]
    rw [iS,gQ,ab hf.err]
   ·rw [ab hd] at h |-
    have gQ:cw p d=p:=by unfold cw;rw [ab hd]
    have hi:∀ s:ah,s≠[]->is p 0 s=decide (sign ts 0=s):=fun s hs=>On.is hp 0 hs
    have BH:is p 1 [61]=decide (sign ts 1=[61]):=On.is hp 1 ao;simp only at h |-
    by_cases hv:sign ts 0=nB
    ·rw [ae hv]
     have uG:is p 0 nB=true:=by rw [hi _ ao];simpa using hv
     obtain ⟨tv,Aj,_⟩:=eh ao hv;have hn:=hp;rw [Aj] at hn
     have hn:=hn.next
     rw [show p.e=p.next.e from rfl];obtain ⟨t,q,D,X⟩:=PF (d:=d+1) hn.1
     rcases X with ⟨r,X,h3⟩ | ⟨x,X,h3⟩
     ·rw [X];refine ⟨one 13 (tok p 0).at_ (tok p.next 0).s [t],want q [59],fun g hg=>?_,by rw [c8];rfl,hn.tr h3⟩;exact zev
     ·rw [X];refine ⟨one 13 (tok p 0).at_ (tok p.next 0).s [t],want q [59],fun g hg=>?_,hn.tr (y:=.error x) h3⟩;exact zev
    rw [ab hv] at h |-
    have uG:¬ is p 0 nB=true:=by rw [hi _ ao];simpa using hv
    by_cases hc:sign ts 0=gE\/sign ts 0=ig
    ·rw [ae hc] at h |-
     have qv:is p 0 gE=true\/is p 0 ig=true:=by rw [hi _ ao,hi _ ao];simpa using hc
     obtain ⟨tv,Aj⟩:∃ t,ts=t::ts.tail:=by
      rcases hc with hc | hc
      ·obtain ⟨t,D,_⟩:=eh ao hc;exact ⟨t,D⟩
      ·obtain ⟨t,D,_⟩:=eh ao hc;exact ⟨t,D⟩
     have hn:=hp;rw [Aj] at hn
     have hn:=hn.next
     have sE:(if is p 0 gE=true then (9:Int) else 10)=if sign ts 0=gE then 9 else 10:=by rw [hi _ ao];simp
     obtain ⟨c,q,D,X⟩:=Pz (d:=d+1) (a:=[40]) (b:=[41]) hn.1 ao ao
     rcases X with ⟨r,X,h3⟩ | ⟨x,X,h3⟩
     ·rw [show p.next.e=p.e from rfl] at X;rw [X] at h |-;simp only at h |-;have h3:=hn.tr h3
      have hb:rs p.e f (.block (d+1)) r≠.error bo:=fun h0=>h zfC
      rw [<-h3.2.2] at hb;obtain ⟨b,q2,h4,h5⟩:=C.block (d+1) r (want q [41]) h3.1 (by rw [h3.2.1];exact hs) hb;rw [h3.2.2] at h5;rw [Gs h3.2.1] at h4
      cases he:rs p.e f (.block (d+1)) r with
      | error x =>
       rw [he] at h5;refine ⟨one (if is p 0 gE=true then 9 else 10) (tok p 0).at_ [] [c,b],q2,fun g hg=>?_,h3.tr (y:=.error x) h5⟩;obtain ⟨g,rfl,nu,gR⟩:=qX hg;refine zbC ?_;rw [ab (fun h0=>b9.err h5 h0.2.1)]
      | ok y =>
       obtain ⟨b',r2⟩:=y;rw [he] at h5 h;obtain ⟨rfl,h5⟩:=h5;simp only at h |-;have h5:=h3.tr h5;have lY:is q2 0 ju=decide (sign r2 0=ju):=On.is h5.1 0 ao
       by_cases Hz:sign ts 0=gE
       ·rw [ae Hz] at h sE |-
        have RZ:is p 0 gE=true:=by rw [hi _ ao];simpa using Hz
        by_cases fB:sign r2 0=ju
        ·rw [ae fB] at h |-;obtain ⟨te,Pw,_⟩:=eh ao fB;have bZ:=h5.1;rw [Pw] at bZ
         have bZ:=h5.tr bZ.next
         have hb:rs p.e f (.block (d+1)) r2.tail≠.error bo:=fun h0=>h zfC
         rw [<-bZ.2.2] at hb
         obtain ⟨b2,q3,h6,h7⟩:=C.block (d+1) r2.tail q2.next bZ.1 (by rw [bZ.2.1];exact hs) hb
         rw [bZ.2.2] at h7;rw [Gs bZ.2.1] at h6;refine ⟨one 9 (tok p 0).at_ [] [c,b,b2],q3,fun g hg=>?_,?_⟩
         ·obtain ⟨g,rfl,nu,gR⟩:=qX hg;refine zbC ?_;rw [ae ⟨RZ,h5.1.code,by rw [lY];simpa using fB⟩,h6 g nu]
         ·cases nO:rs p.e f (.block (d+1)) r2.tail with
          | error x=>rw [nO] at h7;exact bZ.tr (y:=.error x) h7
          | ok y=>obtain ⟨b3,r3⟩:=y;rw [nO] at h7;obtain ⟨rfl,h7⟩:=h7;exact ⟨by rw [c8],bZ.tr h7⟩
        ·rw [ab fB];refine ⟨one (if is p 0 gE=true then 9 else 10) (tok p 0).at_ [] [c,b],q2,fun g hg=>?_,by rw [sE,c8],h5⟩;obtain ⟨g,rfl,nu,gR⟩:=qX hg;refine zbC ?_;rw [ab (fun h0=>by have:=h0.2.2;rw [lY] at this;exact fB (by simpa using this))]
       ·rw [ab Hz] at sE |-
        have RZ:¬ is p 0 gE=true:=by rw [hi _ ao];simpa using Hz
        refine ⟨one (if is p 0 gE=true then 9 else 10) (tok p 0).at_ [] [c,b],q2,fun g hg=>?_,by rw [sE,c8],h5⟩;obtain ⟨g,rfl,nu,gR⟩:=qX hg;refine zbC ?_;rw [ab (fun h0=>RZ h0.1)]
     ·rw [show p.next.e=p.e from rfl] at X;rw [X] at h |-;have h3:=hn.tr (y:=.error x) h3;refine ⟨one (if is p 0 gE=true then 9 else 10) (tok p 0).at_ [] [c,one 14 (tok (want q [41]) 0).at_ [] []],want q [41],fun g hg=>?_,h3⟩;obtain ⟨g,rfl,nu,gR⟩:=qX hg;rw [iS,gQ,ae hp.code,ab uG,ae qv,D g gR];simp only;rw [R8 h3.err aq];simp only;rw [ab (fun h0=>h3.err h0.2.1)]
    rw [ab hc] at h |-
    have qv:¬ (is p 0 gE=true\/is p 0 ig=true):=by rw [hi _ ao,hi _ ao];simpa using hc
    by_cases hr:sign ts 0=gU
    ·rw [ae hr]
     have vz:is p 0 gU=true:=by rw [hi _ ao];simpa using hr
     obtain ⟨tv,Aj,_⟩:=eh ao hr;have hn:=hp;rw [Aj] at hn
     have hn:=hn.next
     obtain ⟨t,q,D,X⟩:=MJ (d:=d+1) (b:=[59]) hn.1 ao;rw [show p.next.e=p.e from rfl] at X;refine ⟨one 11 (tok p 0).at_ [] [t],want q [59],fun g hg=>?_,?_⟩
     ·obtain ⟨g,rfl,nu,gR⟩:=qX hg;rw [iS,gQ,ae hp.code,ab uG,ab qv,ae vz,D g gR]
     ·rcases X with ⟨r,r',X,h3,h4⟩ | ⟨r,x,X,h3,h4⟩ | ⟨x,X,h4⟩
      ·exact zfi
      ·exact zdk
      ·rw [X];exact zbS
    rw [ab hr] at h |-
    have vz:¬ is p 0 gU=true:=by rw [hi _ ao];simpa using hr
    cases ts with
    | nil =>
     have ht:tok p 0=⟨0,0,[],p.e⟩:=by rw [On.tok hp];rfl
     have mQ:¬ ((tok p 0).kind=2/\is p 1 [61]=true):=fun hx=>by have:=hx.1;rw [ht] at this;simp at this
     obtain ⟨t,q,D,X⟩:=MK (d:=d+1) hp (aH _)
     rcases X with ⟨r,X,h3⟩ | ⟨x,X,h3⟩
     ·exact ze8
     ·have mP:¬ yY p q t:=fun h0=>h3.err h0.2.1
      refine ⟨one 12 (tok p 0).at_ [] [t],want q [59],fun g hg=>?_,by unfold simple;rw [X,gY h3.err];exact h3⟩;exact za9
    | cons a r0 =>
     simp only [simple] at h |-
     have ht:tok p 0=a:=by rw [On.tok hp];rfl
     by_cases iG:a.kind=2/\sign (a::r0) 1=[61]
     ·rw [ae iG];have mQ:(tok p 0).kind=2/\is p 1 [61]=true:=⟨by rw [ht];exact iG.1,by rw [BH];simpa using iG.2⟩;obtain ⟨t,q,D,X⟩:=PF (d:=d+1) hp
      rcases X with ⟨r,X,h3⟩ | ⟨x,X,h3⟩
      ·rw [X];refine ⟨one 7 (tok p 0).at_ (tok p 0).s [t],want q [59],fun g hg=>?_,by rw [c8];rfl,h3⟩;exact zdl
      ·rw [X];refine ⟨one 7 (tok p 0).at_ (tok p 0).s [t],want q [59],fun g hg=>?_,h3⟩;exact zdl
     ·rw [ab iG]
      have mQ:¬ ((tok p 0).kind=2/\is p 1 [61]=true):=fun hx=>iG ⟨by rw [<-ht];exact hx.1,by have:=hx.2;rw [BH] at this;simpa using this⟩
      obtain ⟨t,q,D,X⟩:=MK (d:=d+1) hp (aH _)
      rcases X with ⟨r,X,h3⟩ | ⟨x,X,h3⟩
      ·rw [X];simp only;have lY:is q 0 [61]=decide (sign r 0=[61]):=On.is h3.1 0 ao
       by_cases kc:t.n.kind=3/\t.n.at_=a.at_/\sign r 0=[61]
       ·rw [ae kc];obtain ⟨a',pre,ht1,Uk⟩:=OH X;cases ht1;obtain ⟨ud,YC,w,HO,pU⟩:=(Uk (On.srt hp hs)).2 kc.1 kc.2.1
        have ZF:wH q=[93]:=by rw [<-pU];exact On.last hp h3 (by rw [<-HO];rfl)
        have mP:yY p q t:=⟨kc.1,h3.1.code,ZF,by rw [ht];exact kc.2.1,by rw [ht];exact ud,by rw [lY];simpa using kc.2.2⟩;obtain ⟨ix,z8⟩:=Qp _ _ _ _ _ _ (fun k d out hj=>by cases hj) X kc.1
        have fD:Go.Xp.aL p.e [61] r=.ok r.tail:=by unfold Go.Xp.aL;rw [ae kc.2.2]
        have hwa:=On.want h3.1 (s:=[61]) ao;rw [h3.2.2,fD] at hwa;have hn:=h3.tr hwa;obtain ⟨v,q2,h4,h5⟩:=MJ (d:=d+1) (b:=[59]) hn.1 ao;rw [hn.2.2] at h5;rw [hn.2.1] at h4;refine ⟨one 8 (tok p 0).at_ t.n.s [ix,v],want q2 [59],fun g hg=>?_,?_⟩
        ·obtain ⟨g,rfl,nu,gR⟩:=qX hg;rw [iS,gQ,ae hp.code,ab uG,ab qv,ab vz,ab mQ,D g gR];simp only;rw [ae mP,z8,h4 g gR]
        ·unfold Go.Xp.inner;rw [fD];simp only
         rcases h5 with ⟨r2,r',X,h3,h4⟩ | ⟨r2,x,X,h3,h4⟩ | ⟨x,X,h4⟩
         ·rw [X];simp only;rw [h3];exact ⟨by rw [ht,z8];rfl,hn.tr h4⟩
         ·exact zdk
         ·rw [X];exact zbS
       ·rw [ab kc]
        have mP:¬ yY p q t:=fun h0=>kc ⟨h0.1,by rw [<-ht];exact h0.2.2.2.1,by have:=h0.2.2.2.2.2;rw [lY] at this;simpa using this⟩
        refine ⟨one 12 (tok p 0).at_ [] [t],want q [59],fun g hg=>?_,?_⟩
        ·exact za9
        ·rcases n9 h3.1 (s:=[59]) ao with ⟨r',h4,h5⟩ | ⟨x,h4,h5⟩
         ·rw [h3.2.2] at h4;rw [h4];exact ⟨by rw [ht],h3.tr h5⟩
         ·rw [h3.2.2] at h4;rw [h4];exact h3.tr (y:=.error x) h5
      ·rw [X]
       have mP:¬ yY p q t:=fun h0=>h3.err h0.2.1
       refine ⟨one 12 (tok p 0).at_ [] [t],want q [59],fun g hg=>?_,by rw [gY h3.err];exact h3⟩;exact za9
  ·rw [rs.body] at h |-;have hi:is p 0 [125]=decide (sign ts 0=[125]):=On.is hp 0 ao
   by_cases hb:sign ts 0=[125]
   ·rw [ae hb];have hm:=On.want hp (s:=[125]) ao;unfold Go.Xp.aL at hm;rw [ae hb] at hm;refine ⟨acc,p,fun g hg=>?_,rfl,hm⟩;obtain ⟨g,rfl,nu,gR⟩:=qX hg;rw [iB,ab (fun h0=>by have:=h0.2;rw [hi] at this;simp [hb] at this)]
   ·rw [ab hb] at h |-
    have cU:rs p.e f (.stmt d) ts≠.error bo:=fun h0=>h zfC
    obtain ⟨a,q,D,X⟩:=C.stmt d ts p hp hs cU;have hc:p.code=0/\is p 0 [125]=false:=⟨hp.code,by rw [hi];simpa using hb⟩
    cases he:rs p.e f (.stmt d) ts with
    | error x =>
     rw [he] at X h;refine ⟨acc++[a],q,fun g hg=>?_,by rw [gY (b9.err X)];exact X⟩;obtain ⟨g,rfl,nu,gR⟩:=qX hg;rw [iB,ae hc,D g nu];simp only;obtain ⟨g,rfl⟩:∃ g',g=g'+1:=⟨g - 1,by omega⟩;rw [iB,ab (fun h0=>b9.err X h0.1)]
    | ok y =>
     obtain ⟨a',r⟩:=y;rw [he] at X h;obtain ⟨rfl,X⟩:=X;simp only at h |-;rw [<-X.2.2] at h |-;obtain ⟨l,q3,h3,h4⟩:=C.body d (acc++[a]) r q X.1 (by rw [X.2.1];exact hs) h;rw [Gs X.2.1] at h3;refine ⟨l,q3,fun g hg=>?_,kR.tr X h4⟩;obtain ⟨g,rfl,nu,gR⟩:=qX hg;rw [iB,ae hc,D g nu];exact h3 g nu
section
variable {p q:RS}
theorem uk {k:Nat} (h:(tok p k).kind≠0):p.i+k < p.l.length:=by
 unfold tok at h
 refine Nat.lt_of_not_le fun hn=>?_
 rw [List.getElem?_eq_none_iff.2 hn] at h;exact h rfl
theorem is_lt {k:Nat} {s:ah} (h:is p k s=true):p.i+k < p.l.length:=by
 unfold is at h;rw [aI] at h;exact uk (by have:=h.1;simp at this;omega)
theorem lH {s:ah} (h:is p 0 s=true):p.to p.next:=cE (is_lt h)
theorem za (hp:p.ok):p.to (ml p):=lh hp _ _
theorem c7 (hp:p.ok) (s:ah):p.to (want p s):=by
 unfold want;split
 ·split
  ·rename_i h;exact lH h
  ·exact za hp
 ·exact kh hp
theorem jA (hp:p.ok):p.to (bI p):=by
 unfold bI;split
 ·split
  ·rename_i h;split
   ·exact ze6
   ·exact cE (uk (k:=0) aq)
  ·exact za hp
 ·exact kh hp
theorem wR (hp:p.ok) (d:Nat):p.to (cw p d):=by
 unfold cw;split
 ·exact ze6
 ·exact kh hp
theorem qN {d:Nat} (h:(cw p d).code=0):cw p d=p:=by
 unfold cw at h |-;split at h
 ·unfold RS.fail at h;split at h
  ·cases h
  ·rename_i hd hc;exact absurd h hc
 ·rename_i hd;rw [ab hd]
end
theorem kX:∀ (f:Nat),(∀ j p t q,p.ok->iE f j p=some (t,q)->p.to q)/\(∀ d acc p l q,p.ok->iA f d acc p=some (l,q)->p.to q)
 | 0=>⟨fun j p t q _ h=>by simp [iE] at h,fun d acc p l q _ h=>by simp [iA] at h⟩
 | f+1=>by
  obtain ⟨D,X⟩:=kX f;refine ⟨fun j p t q hp h=>?_,fun d acc p l q hp h=>?_⟩
  ·cases j with
   | expr d =>
    rw [iE] at h;have hd:=wR hp d;split at h
    ·exact hd.trans (D _ _ _ _ (hd.ok hp) h)
    ·cases h;exact hd
   | level k d =>
    rw [iE] at h;split at h
    ·exact D _ _ _ _ hp h
    ·split at h
     ·cases h
     ·rename_i out p' he;have:=D _ _ _ _ hp he;exact zcr
   | loop k d out =>
    rw [iE] at h;split at h
    ·rename_i hc;have hn:=cE (p:=p) (uk (k:=0) (by have:=hc.2.1;omega));split at h
     ·cases h
     ·exact zem
    ·cases h;exact kh hp
   | operand d =>
    rw [iE] at h;split at h
    ·split at h
     ·rename_i hc
      have hn:p.to p.next:=by rcases hc with hc | hc | hc <;> exact lH hc
      split at h
      ·cases h
      ·rename_i a p' he
       cases h;exact hn.trans (D _ _ _ _ (hn.ok hp) he)
     ·split at h
      ·rename_i hk
       cases h;exact cE (uk (k:=0) aq)
      ·split at h
       ·rename_i hc;have hn:=lH hc;split at h
        ·cases h
        ·rename_i a p' he;have:=hn.trans (D _ _ _ _ (hn.ok hp) he)
         cases h;exact zbu
       ·have hn:=jA hp;split at h
        ·split at h
         ·rename_i hc;have bZ:=hn.trans (lH hc);split at h
          ·cases h
          ·rename_i a p' he;have:=bZ.trans (D _ _ _ _ (bZ.ok hp) he)
           cases h;exact zbu
         ·split at h
          ·rename_i hc;have bZ:=hn.trans (lH hc);split at h
           ·cases h
           ·rename_i a p' he
            cases h;exact bZ.trans (X _ _ _ _ _ (bZ.ok hp) he)
          ·cases h;exact hn
        ·cases h;exact hn
    ·cases h;exact wR hp d
  ·rw [iA] at h;split at h
   ·have hn:p.to (if acc.length=0 then p else want p [44]):=by
     split
     ·exact kh hp
     ·exact c7 hp _
    split at h
    ·cases h
    ·rename_i a p' he;have:=hn.trans (D _ _ _ _ (hn.ok hp) he);exact zdw
   ·cases h;exact c7 hp _
theorem Gz:∀ (f:Nat),(∀ j p t q,p.ok->iS f j p=some (t,q)->p.to q)/\(∀ d acc p l q,p.ok->iB f d acc p=some (l,q)->p.to q)
 | 0=>⟨fun j p t q _ h=>by simp [iS] at h,fun d acc p l q _ h=>by simp [iB] at h⟩
 | f+1=>by
  obtain ⟨D,X⟩:=Gz f;have xC:=(kX f).1;refine ⟨fun j p t q hp h=>?_,fun d acc p l q hp h=>?_⟩
  ·cases j with
   | block d =>
    rw [iS] at h;split at h
    ·have hm:=c7 hp [123];split at h
     ·cases h
     ·rename_i l p' he;have:=hm.trans (X _ _ _ _ _ (hm.ok hp) he)
      cases h;exact zbu
    ·cases h;exact wR hp d
   | stmt d =>
    rw [iS] at h;split at h
    ·split at h
     ·rename_i hs;have hn:=lH hs;have dq:=hn.trans (jA (hn.ok hp));have fD:=dq.trans (c7 (dq.ok hp) [61]);split at h
      ·cases h
      ·rename_i e p' he;have:=fD.trans (xC _ _ _ _ (fD.ok hp) he)
       cases h;exact zbu
     ·split at h
      ·rename_i hs
       have hn:p.to p.next:=by rcases hs with hs | hs <;> exact lH hs
       have fD:=hn.trans (c7 (hn.ok hp) [40]);split at h
       ·cases h
       ·rename_i e p' he;have:=fD.trans (xC _ _ _ _ (fD.ok hp) he);have sd:=this.trans (c7 (this.ok hp) [41]);split at h
        ·cases h
        ·rename_i b p2 hb;have ej:=sd.trans (D _ _ _ _ (sd.ok hp) hb);split at h
         ·rename_i hc;have bZ:=ej.trans (lH hc.2.2);split at h
          ·cases h
          ·rename_i b2 p3 vm
           cases h;exact bZ.trans (D _ _ _ _ (bZ.ok hp) vm)
         ·cases h;exact ej
      ·split at h
       ·rename_i hs;have hn:=lH hs;split at h
        ·cases h
        ·rename_i e p' he;have:=hn.trans (xC _ _ _ _ (hn.ok hp) he)
         cases h;exact zbu
       ·split at h
        ·have dq:=jA hp;have fD:=dq.trans (c7 (dq.ok hp) [61]);split at h
         ·cases h
         ·rename_i e p' he;have:=fD.trans (xC _ _ _ _ (fD.ok hp) he)
          cases h;exact zbu
        ·split at h
         ·cases h
         ·rename_i e p' he;have hx:=xC _ _ _ _ hp he;split at h
          ·have hn:=hx.trans (c7 (hx.ok hp) [61]);split at h
           ·rename_i a r v p2 hk nO;have:=hn.trans (xC _ _ _ _ (hn.ok hp) nO)
            cases h;exact zbu
           ·cases h
          ·cases h;exact hx.trans (c7 (hx.ok hp) _)
    ·cases h;exact wR hp d
  ·rw [iB] at h;split at h
   ·split at h
    ·cases h
    ·rename_i a p' he;have:=D _ _ _ _ hp he;exact zdw
   ·cases h;exact kh hp
theorem xT (p:RS):p.next.i=p.i+1:=rfl
theorem Ya:∀ (f:Nat) j p t q,p.ok->iE f j p=some (t,q)->q.code=0->(∀ k d out,j≠.loop k d out)->p.i < q.i:=by
 intro f
 induction f with
 | zero=>intro j p t q _ h;simp [iE] at h
 | succ f ih =>
  intro j p t q hp h hq hj
  cases j with
  | loop k d out=>exact absurd rfl (hj k d out)
  | expr d =>
   rw [iE] at h;split at h
   ·rename_i hc;rw [qN hc] at h;exact ih _ _ _ _ hp h hq (fun k d out h=>by cases h)
   ·rename_i hc;cases h;exact absurd hq hc
  | level k d =>
   rw [iE] at h;split at h
   ·exact ih _ _ _ _ hp h hq (fun k d out h=>by cases h)
   ·split at h
    ·cases h
    ·rename_i out p' he;have jJ:=(kX f).1 _ _ _ _ hp he
     have au:p'.code=0:=by
      by_cases hc:p'.code=0
      ·exact hc
      ·cases f with
       | zero=>simp [iE] at h
       | succ f =>
        rw [iE,ab (fun h0=>hc h0.1)] at h
        cases h;exact hq
     have D:=ih _ _ _ _ hp he au (fun k d out h=>by cases h);have X:=(kX f).1 _ _ _ _ (jJ.ok hp) h;have:=X.2.2.2;omega
  | operand d =>
   rw [iE] at h;split at h
   ·split at h
    ·rename_i hc
     have hn:p.to p.next:=by rcases hc with hc | hc | hc <;> exact lH hc
     split at h
     ·cases h
     ·rename_i a p' he;cases h;have:=((kX f).1 _ _ _ _ (hn.ok hp) he).2.2.2;rw [xT] at this;omega
    ·split at h
     ·cases h;rw [xT];omega
     ·split at h
      ·rename_i hc;have hn:=lH hc;split at h
       ·cases h
       ·rename_i a p' he;cases h;have D:=(kX f).1 _ _ _ _ (hn.ok hp) he;have X:=(c7 ((D.ok (hn.ok hp))) [41]).2.2.2;have:=D.2.2.2;rw [xT] at this;omega
      ·have hn:=jA hp;split at h
       ·rename_i jH
        have au:p.i < (bI p).i:=by
         unfold bI at jH |-;split at jH
         ·rename_i h0;split at jH
          ·rename_i X;split at jH
           ·unfold RS.fail at jH;rw [ae h0] at jH;cases jH
           ·rename_i hl;rw [ae h0,ae X,ab hl,xT];omega
          ·unfold ml RS.fail at jH;rw [ae h0] at jH;cases jH
         ·rename_i h0;exact absurd jH h0
        split at h
        ·rename_i hc;have bZ:=hn.trans (lH hc);split at h
         ·cases h
         ·rename_i a p' he;cases h;have D:=(kX f).1 _ _ _ _ (bZ.ok hp) he;have X:=(c7 ((D.ok (bZ.ok hp))) [93]).2.2.2;have:=D.2.2.2;rw [xT] at this;omega
        ·split at h
         ·rename_i hc;have bZ:=hn.trans (lH hc);split at h
          ·cases h
          ·rename_i a p' he;cases h;have:=((kX f).2 _ _ _ _ _ (bZ.ok hp) he).2.2.2;rw [xT] at this;omega
         ·cases h;exact au
       ·rename_i jH;cases h;exact absurd hq jH
   ·rename_i hc;cases h;exact absurd hq hc
end Go.Im
namespace Go.Xp
mutual
def bc:T->Nat
 | .mk _ l=>aD l+1
def aD:List T->Nat
 | []=>0
 | t::r=>bc t+aD r
end
def bE:Nat->List T->List Int
 | _,[]=>[]
 | n,t::r=>(n:Int)::bE (n+bc t) r
mutual
def iO:Nat->T->List Nd
 | n,.mk nd l=>⟨nd.kind,nd.at_,nd.n,nd.s,bE (n+1) l⟩::dX (n+1) l
def dX:Nat->List T->List Nd
 | _,[]=>[]
 | n,t::r=>iO n t++dX (n+bc t) r
end
theorem fa (t:T):bc t=aD t.kids+1:=by cases t;rw [bc];rfl
theorem OM (n:Nat) (t:T):iO n t=⟨t.n.kind,t.n.at_,t.n.n,t.n.s,bE (n+1) t.kids⟩::dX (n+1) t.kids:=by cases t;rw [iO];rfl
theorem pg (a b:List T):aD (a++b)=aD a+aD b:=by
 induction a with
 | nil=>simp [aD]
 | cons t a ih=>simp only [cons_append,aD,ih];omega
theorem yI (a b:List T) (n:Nat):bE n (a++b)=bE n a++bE (n+aD a) b:=by
 induction a generalizing n with
 | nil=>simp [bE,aD]
 | cons t a ih=>simp only [cons_append,bE,aD,ih,iy]
theorem AW (a b:List T) (n:Nat):dX n (a++b)=dX n a++dX (n+aD a) b:=by
 induction a generalizing n with
 | nil=>simp [dX,aD]
 | cons t a ih=>simp only [cons_append,dX,aD,ih,iy,fP]
theorem eC (a:List T) (n:Nat):(bE n a).length=a.length:=by
 induction a generalizing n with
 | nil=>rfl
 | cons t a ih=>simp [bE,ih]
theorem ON:∀ (N:Nat),(∀ t:T,bc t<=N->∀ n,(iO n t).length=bc t)/\(∀ l:List T,aD l<=N->∀ n,(dX n l).length=aD l):=by
 intro N
 induction N with
 | zero =>
  refine ⟨fun t h=>by rw [fa] at h;omega,fun l h n=>?_⟩
  cases l with
  | nil=>rfl
  | cons t l=>rw [aD,fa] at h;omega
 | succ N ih =>
  have D:∀ t:T,bc t<=N+1->∀ n,(iO n t).length=bc t:=fun t h n=>by
   rw [fa] at h;rw [OM,fa,length_cons,ih.2 _ aq]
  refine ⟨D,fun l=>?_⟩
  induction l with
  | nil=>intro _ n;rfl
  | cons t l ih2 =>
   intro h n;rw [aD] at h;rw [dX,aO,D t aq,ih2 aq,aD]
theorem Kq (t:T) (n:Nat):(iO n t).length=bc t:=(ON (bc t)).1 t (aH _) n
theorem uV (l:List T) (n:Nat):(dX n l).length=aD l:=(ON (aD l)).2 l (aH _) n
theorem xe (l:List T) (k:Nat):aD (l.take k)<=aD l:=by
 have:aD l=aD (l.take k)+aD (l.drop k):=by rw [<-pg,List.take_append_drop]
 omega
theorem xf {l:List T} {k:Nat} {t:T} (h:l[k]?=some t):aD (l.take (k+1))=aD (l.take k)+bc t:=by
 have:l.take (k+1)=l.take k++[t]:=by rw [dh,h];rfl
 rw [this,pg,aD,aD];rfl
theorem iu (l:List T):l.length<=aD l:=by
 induction l with
 | nil=>simp
 | cons t l ih=>rw [aD,fa,length_cons];omega
open Go.Sp (bN ia)
abbrev K:=Int × Int × ah
def kf (t:Tok):K:=(t.kind,t.n,t.s)
abbrev kS (s:ah):K:=(3,0,s)
abbrev kN (s:ah):K:=(2,0,s)
abbrev kI (n:Int):K:=(1,n,[])
inductive E where
 | num (n:Int)
 | name (s:ah)
 | at_ (s:ah) (a:E)
 | call (s:ah) (l:List E)
 | un (s:ah) (a:E)
 | bin (s:ah) (a b:E)
def eS (s:ah):Nat:=(levels.findIdx? fun l=>l.contains s).getD 9
def E.lv:E->Nat
 | .bin s _ _=>eS s
 | _=>9
def brk (lv k:Nat) (x:List K):List K:=if lv < k then kS [40]::(x++[kS [41]]) else x
mutual
def E.tk:E->List K
 | .num n=>[kI n]
 | .name s=>[kN s]
 | .at_ s a=>kN s::kS [91]::(a.tk++[kS [93]])
 | .call s l=>kN s::kS [40]::(E.o9 l++[kS [41]])
 | .un s a=>kS s::brk a.lv 9 a.tk
 | .bin s a b=>brk a.lv (eS s) a.tk++kS s::brk b.lv (eS s+1) b.tk
def E.o9:List E->List K
 | []=>[]
 | a::l=>a.tk++E.su l
def E.su:List E->List K
 | []=>[]
 | a::l=>kS [44]::(a.tk++E.su l)
end
mutual
def E.tree:E->T
 | .num n=>.mk ⟨1,0,n,[],[]⟩ []
 | .name s=>.mk ⟨2,0,0,s,[]⟩ []
 | .at_ s a=>.mk ⟨3,0,0,s,[]⟩ [a.tree]
 | .call s l=>.mk ⟨4,0,0,s,[]⟩ (E.trees l)
 | .un s a=>.mk ⟨5,0,0,s,[]⟩ [a.tree]
 | .bin s a b=>.mk ⟨6,0,0,s,[]⟩ [a.tree,b.tree]
def E.trees:List E->List T
 | []=>[]
 | a::l=>a.tree::E.trees l
end
def J8 (lv k d:Nat) (f:Nat->Bool):Bool:=if lv < k then decide (d<=60)&&decide (d+1<=60)&&f (d+2) else f d
mutual
def E.fit:E->Nat->Bool
 | .num _,d=>decide (d<=60)
 | .name _,d=>decide (d<=60)
 | .at_ _ a,d=>decide (d<=60)&&decide (d+1<=60)&&a.fit (d+2)
 | .call _ l,d=>decide (d<=60)&&E.fits l (d+1)
 | .un _ a,d=>decide (d<=60)&&(if a.lv < 9 then decide (d+1<=60)&&decide (d+2<=60)&&a.fit (d+3) else a.fit (d+1))
 | .bin s a b,d=>(if a.lv < eS s then decide (d<=60)&&decide (d+1<=60)&&a.fit (d+2) else a.fit d)&&(if b.lv < eS s+1 then decide (d<=60)&&decide (d+1<=60)&&b.fit (d+2) else b.fit d)
def E.fits:List E->Nat->Bool
 | [],_=>true
 | a::l,d=>decide (d<=60)&&a.fit (d+1)&&E.fits l d
end
mutual
def E.ok:E->Bool
 | .num n=>decide (0<=n)&&decide (n<=2147483647)
 | .name s=>bN s
 | .at_ s a=>bN s&&a.ok
 | .call s l=>bN s&&E.dA l
 | .un s a=>(s==[45] || s==[33] || s==[126])&&a.ok
 | .bin s a b=>ia s&&a.ok&&b.ok
def E.dA:List E->Bool
 | []=>true
 | a::l=>a.ok&&E.dA l
end
mutual
def er:T->T
 | .mk n l=>.mk ⟨n.kind,0,n.n,n.s,[]⟩ (aZ l)
def aZ:List T->List T
 | []=>[]
 | t::l=>er t::aZ l
end
theorem Kk (l k:List T):aZ (l++k)=aZ l++aZ k:=by
 induction l with
 | nil=>rfl
 | cons t l ih=>simp [aZ,ih]
theorem uU (l:List T):aZ l=l.map er:=by
 induction l with
 | nil=>rfl
 | cons t l ih=>simp [aZ,ih]
theorem ey (k a:Int) (s:ah) (l:List T):er (one k a s l)=.mk ⟨k,0,0,s,[]⟩ (aZ l):=by unfold one;rw [er]
def Ev (e:Int) (j:wb) (ts:List Tok) (x:Rd T):Prop:=∃ f0,∀ f,f0<=f->rd e f j ts=x
def Ea (e:Int) (d:Nat) (acc:List T) (ts:List Tok) (x:Rd (List T)):Prop:=∃ f0,∀ f,f0<=f->rd.args e f d acc ts=x
section
variable {e:Int} {d k:Nat} {ts r:List Tok} {t out:T} {x:Rd T} {y:Er}
theorem BA {j j':wb} {ts kv:List Tok} {x x':Rd T} (h:Ev e j ts x) (hs:∀ f,rd e f j ts=x->rd e (f+1) j' kv=x'):Ev e j' kv x':=by
 exact zb8
theorem ev2 {j j' j2:wb} {ts kv yh:List Tok} {x x' x2:Rd T} (h:Ev e j ts x) (X:Ev e j2 yh x2) (hs:∀ f,rd e f j ts=x->rd e f j2 yh=x2->rd e (f+1) j' kv=x'):Ev e j' kv x':=by
 exact zbA
theorem OG {j':wb} {kv:List Tok} {x':Rd T} (hs:∀ f,rd e (f+1) j' kv=x'):Ev e j' kv x' :=
 ⟨1,fun f hf=>by obtain ⟨f,rfl⟩:∃ g,f=g+1:=⟨f - 1,by omega⟩;exact hs f⟩
theorem Ev.expr (hd:d<=60) (h:Ev e (.level 0 (d+1)) ts x):Ev e (.expr d) ts x:=BA h fun f h=>by rw [rd,ab aq];exact h
theorem Ev.Zv (hd:60 < d):Ev e (.expr d) ts (.error (9,place e ts)):=OG fun f=>by rw [rd,ae hd]
theorem Ev.level (hk:k≠9) (h:Ev e (.level (k+1) d) ts (.ok (out,r))) (X:Ev e (.loop k d out) r x):Ev e (.level k d) ts x:=ev2 h X fun f h X=>by rw [rd,ab hk,h];exact X
theorem Ev.Yi (hk:k≠9) (h:Ev e (.level (k+1) d) ts (.error y)):Ev e (.level k d) ts (.error y):=BA h fun f h=>by rw [rd,ab hk,h]
theorem Ev.H4 (h:Ev e (.operand d) ts x):Ev e (.level 9 d) ts x:=BA h fun f h=>by rw [rd,ae rfl];exact h
theorem Ev.stop (h:sign ts 0 ∉ levels.getD k []):Ev e (.loop k d out) ts (.ok (out,ts)):=OG fun f=>by
 cases ts with
 | nil=>rw [rd]
 | cons t r =>
  rw [rd,ab];rintro ⟨h3,h4⟩;apply h;simp only [sign,getElem?_cons_zero,dE,h3,if_true];exact h4
theorem Ev.go {t:Tok} {b:T} {r':List Tok} (h3:t.kind=3) (hs:t.s∈levels.getD k []) (h:Ev e (.level (k+1) d) r (.ok (b,r'))) (X:Ev e (.loop k d (one 6 t.at_ t.s [out,b])) r' x):Ev e (.loop k d out) (t::r) x :=
 ev2 h X fun f h X=>by rw [rd,ae ⟨h3,hs⟩,h];exact X
theorem Ev.goX {t:Tok} (h3:t.kind=3) (hs:t.s∈levels.getD k []) (h:Ev e (.level (k+1) d) r (.error y)):Ev e (.loop k d out) (t::r) (.error y) :=
 BA h fun f h=>by rw [rd,ae ⟨h3,hs⟩,h]
theorem Ev.Tx (hd:60 < d):Ev e (.operand d) ts (.error (9,place e ts)):=OG fun f=>by rw [rd.eq_def];simp only;rw [ae hd]
theorem Ev.num {t:Tok} (hd:d<=60) (h:t.kind=1):Ev e (.operand d) (t::r) (.ok (.mk ⟨1,t.at_,t.n,[],[]⟩ [],r)):=OG fun f=>by
 rw [rd.eq_def];simp only;rw [ab aq,ab aq,ae h]
theorem Ev.un {t:Tok} {a:T} {r':List Tok} (hd:d<=60) (h3:t.kind=3) (hs:t.s=[45]\/t.s=[33]\/t.s=[126]) (h:Ev e (.operand (d+1)) r (.ok (a,r'))):Ev e (.operand d) (t::r) (.ok (one 5 t.at_ t.s [a],r')) :=
 BA h fun f h=>by rw [rd.eq_def];simp only;rw [ab aq,ae h3,ae hs,h]
theorem Ev.unX {t:Tok} (hd:d<=60) (h3:t.kind=3) (hs:t.s=[45]\/t.s=[33]\/t.s=[126]) (h:Ev e (.operand (d+1)) r (.error y)):Ev e (.operand d) (t::r) (.error y) :=
 BA h fun f h=>by rw [rd.eq_def];simp only;rw [ab aq,ae h3,ae hs,h]
theorem Ev.par {t u:Tok} {a:T} {r':List Tok} (hd:d<=60) (h3:t.kind=3) (hs:t.s=[40]) (hu:u.kind=3) (gS:u.s=[41]) (h:Ev e (.expr (d+1)) r (.ok (a,u::r'))):Ev e (.operand d) (t::r) (.ok (a,r')) :=
 BA h fun f h=>by
  rw [rd.eq_def];simp only;rw [ab aq,ae h3,ab zfK,ae hs,h];simp only [aL,sign,getElem?_cons_zero,dE,hu,if_true,gS,tail_cons]
theorem Ev.abX {t:Tok} (hd:d<=60) (h3:t.kind=3) (hs:t.s=[40]) (h:Ev e (.expr (d+1)) r (.error y)):Ev e (.operand d) (t::r) (.error y) :=
 BA h fun f h=>by rw [rd.eq_def];simp only;rw [ab aq,ae h3,ab zfK,ae hs,h]
theorem uY {t:Tok} (X:t.kind=2) (hl:t.s.length<=12):name e (t::r)=.ok (t.s,r):=by
 simp only [name,X,if_true];rw [ab aq]
theorem Ev.name {t:Tok} (hd:d<=60) (X:t.kind=2) (hl:t.s.length<=12) (n1:sign r 0≠[91]) (n2:sign r 0≠[40]):Ev e (.operand d) (t::r) (.ok (one 2 t.at_ t.s [],r)):=OG fun f=>by
 refine zbo ?_;rw [ab n1,ab n2]
theorem Ev.ix {t u w:Tok} {a:T} {r':List Tok} (hd:d<=60) (X:t.kind=2) (hl:t.s.length<=12) (hu:u.kind=3) (gS:u.s=[91]) (hw:w.kind=3) (FM:w.s=[93]) (h:Ev e (.expr (d+1)) r (.ok (a,w::r'))):Ev e (.operand d) (t::u::r) (.ok (one 3 t.at_ t.s [a],r')) :=
 BA h fun f h=>by
  refine zbo ?_;rw [ae (by simp only [sign,getElem?_cons_zero,dE,hu,if_true,gS]),tail_cons,h];simp only [aL,sign,getElem?_cons_zero,dE,hw,if_true,FM,tail_cons]
theorem Ev.ixX {t u:Tok} (hd:d<=60) (X:t.kind=2) (hl:t.s.length<=12) (hu:u.kind=3) (gS:u.s=[91]) (h:Ev e (.expr (d+1)) r (.error y)):Ev e (.operand d) (t::u::r) (.error y) :=
 BA h fun f h=>by
  refine zbo ?_;rw [ae (by simp only [sign,getElem?_cons_zero,dE,hu,if_true,gS]),tail_cons,h]
theorem Ev.call {t u:Tok} {l:List T} {r':List Tok} (hd:d<=60) (X:t.kind=2) (hl:t.s.length<=12) (hu:u.kind=3) (gS:u.s=[40]) (h:Ea e (d+1) [] r (.ok (l,r'))):Ev e (.operand d) (t::u::r) (.ok (one 4 t.at_ t.s l,r')):=by
 obtain ⟨f0,h0⟩:=h;refine ⟨f0+1,fun f hf=>?_⟩;obtain ⟨f,rfl⟩:∃ g,f=g+1:=⟨f - 1,by omega⟩
 have hs:sign (u::r) 0=[40]:=by simp only [sign,getElem?_cons_zero,dE,hu,if_true,gS]
 exact zeA
theorem Ev.Zn {t u:Tok} (hd:d<=60) (X:t.kind=2) (hl:t.s.length<=12) (hu:u.kind=3) (gS:u.s=[40]) (h:Ea e (d+1) [] r (.error y)):Ev e (.operand d) (t::u::r) (.error y):=by
 obtain ⟨f0,h0⟩:=h;refine ⟨f0+1,fun f hf=>?_⟩;obtain ⟨f,rfl⟩:∃ g,f=g+1:=⟨f - 1,by omega⟩
 have hs:sign (u::r) 0=[40]:=by simp only [sign,getElem?_cons_zero,dE,hu,if_true,gS]
 exact zeA
theorem Ea.nil {u:Tok} {acc:List T} (hu:u.kind=3) (gS:u.s=[41]):Ea e d acc (u::r) (.ok (acc,r)):=⟨1,fun f hf=>by
 obtain ⟨f,rfl⟩:∃ g,f=g+1:=⟨f - 1,by omega⟩
 have hs:sign (u::r) 0=[41]:=by simp only [sign,getElem?_cons_zero,dE,hu,if_true,gS]
 rw [rd.args,ae hs];rfl⟩
theorem Ea.first {a:T} {r':List Tok} {x:Rd (List T)} (hs:sign r 0≠[41]) (h:Ev e (.expr d) r (.ok (a,r'))) (X:Ea e d [a] r' x):Ea e d [] r x:=by
 obtain ⟨f0,h0⟩:=h;obtain ⟨dH,D⟩:=X;refine ⟨f0+dH+1,fun f hf=>?_⟩;obtain ⟨f,rfl⟩:∃ g,f=g+1:=⟨f - 1,by omega⟩;rw [rd.args,ab hs,ae rfl];simp only;rw [h0 f aq];exact D f aq
theorem Ea.WW {a:T} (hs:sign r 0≠[41]) (h:Ev e (.expr d) r (.error y)):Ea e d [] r (.error y):=by
 obtain ⟨f0,h0⟩:=h;refine ⟨f0+1,fun f hf=>?_⟩;obtain ⟨f,rfl⟩:∃ g,f=g+1:=⟨f - 1,by omega⟩;rw [rd.args,ab hs,ae rfl];simp only;rw [h0 f aq]
theorem Ea.more {u:Tok} {acc:List T} {a:T} {r':List Tok} {x:Rd (List T)} (ha:acc≠[]) (hu:u.kind=3) (gS:u.s=[44]) (h:Ev e (.expr d) r (.ok (a,r'))) (X:Ea e d (acc++[a]) r' x):Ea e d acc (u::r) x:=by
 obtain ⟨f0,h0⟩:=h;obtain ⟨dH,D⟩:=X;refine ⟨f0+dH+1,fun f hf=>?_⟩;obtain ⟨f,rfl⟩:∃ g,f=g+1:=⟨f - 1,by omega⟩
 have hs:sign (u::r) 0=[44]:=by simp only [sign,getElem?_cons_zero,dE,hu,if_true,gS]
 rw [rd.args,ab zfK,ab ha,aL,ae hs];simp only [tail_cons];rw [h0 f aq];exact D f aq
theorem Ea.ZZ {u:Tok} {acc:List T} (ha:acc≠[]) (hu:u.kind=3) (gS:u.s=[44]) (h:Ev e (.expr d) r (.error y)):Ea e d acc (u::r) (.error y):=by
 obtain ⟨f0,h0⟩:=h;refine ⟨f0+1,fun f hf=>?_⟩;obtain ⟨f,rfl⟩:∃ g,f=g+1:=⟨f - 1,by omega⟩
 have hs:sign (u::r) 0=[44]:=by simp only [sign,getElem?_cons_zero,dE,hu,if_true,gS]
 rw [rd.args,ab zfK,ab ha,aL,ae hs];simp only [tail_cons];rw [h0 f aq]
structure Stop (r:List Tok) (k:Nat):Prop where
 a:sign r 0≠[91]
 b:sign r 0≠[40]
 c:∀ j,k < j->sign r 0 ∉ levels.getD j []
theorem Stop.mono {k':Nat} (h:Stop r k) (hk:k<=k'):Stop r k':=⟨h.a,h.b,fun j hj=>h.c j aq⟩
theorem Ev.lift {m:Nat} (h:Ev e (.level m d) ts (.ok (t,r))) (hm:m<=9) (hs:Stop r k):∀ n,m=k+1+n->Ev e (.loop k d t) r x->Ev e (.level k d) ts x:=by
 intro n
 induction n generalizing m with
 | zero=>intro he X;exact Ev.level aq (by rw [<-he];exact h) X
 | succ n ih =>
  intro he X;exact ih (m:=k+1+n) (Ev.level aq (by rw [show k+1+n+1=m by omega];exact h) (Ev.stop (hs.c _ aq))) aq rfl X
theorem Ev.Uv {m:Nat} (h:Ev e (.level m d) ts (.error y)) (hm:m<=9):∀ n,m=k+n->Ev e (.level k d) ts (.error y):=by
 intro n
 induction n generalizing m with
 | zero=>intro he;subst he;exact h
 | succ n ih=>intro he;exact ih (m:=k+n) (Ev.Yi aq (by rw [show k+n+1=m by omega];exact h)) aq rfl
def Rt (e:Int) (k d:Nat) (ts rest:List Tok) (Q:T->Prop) (b:Bool):Prop :=
 (b=true->∃ t,Q t/\(k < 9->∀ x,Ev e (.loop k d t) rest x->Ev e (.level k d) ts x)/\(k=9->Ev e (.level 9 d) ts (.ok (t,rest))))/\(b=false->∃ pos,Ev e (.level k d) ts (.error (9,pos)))
def Ro (e:Int) (d:Nat) (ts rest:List Tok) (Q:T->Prop) (b:Bool):Prop :=
 (b=true->∃ t,Q t/\Ev e (.operand d) ts (.ok (t,rest)))/\(b=false->∃ pos,Ev e (.operand d) ts (.error (9,pos)))
def Rx (e:Int) (d:Nat) (ts rest:List Tok) (Q:T->Prop) (b:Bool):Prop :=
 (b=true->∃ t,Q t/\Ev e (.expr d) ts (.ok (t,rest)))/\(b=false->∃ pos,Ev e (.expr d) ts (.error (9,pos)))
theorem Ro.rt {rest:List Tok} {Q:T->Prop} {b:Bool} (h:Ro e d ts rest Q b) (hk:k<=9) (hs:Stop rest k):Rt e k d ts rest Q b:=by
 refine ⟨fun hb=>?_,fun hb=>?_⟩
 ·obtain ⟨t,D,X⟩:=h.1 hb;exact ⟨t,D,fun BI x h3=>Ev.lift (Ev.H4 X) (aH _) hs (8 - k) aq h3,fun _=>Ev.H4 X⟩
 ·obtain ⟨pos,D⟩:=h.2 hb;exact ⟨pos,Ev.Uv (Ev.H4 D) (aH _) (9 - k) aq⟩
theorem Rt.down {rest:List Tok} {Q:T->Prop} {b:Bool} {m:Nat} (h:Rt e m d ts rest Q b) (hm:m < 9) (hk:k<=m) (hs:Stop rest k):Rt e k d ts rest Q b:=by
 rcases Nat.lt_or_ge k m with au | kF
 ·refine ⟨fun hb=>?_,fun hb=>?_⟩
  ·obtain ⟨t,D,X,_⟩:=h.1 hb;have h3:=X hm _ (Ev.stop (hs.c m au));exact ⟨t,D,fun BI x h4=>Ev.lift h3 aq hs (m - 1 - k) aq h4,fun h9=>by omega⟩
  ·obtain ⟨pos,D⟩:=h.2 hb;exact ⟨pos,Ev.Uv D aq (m - k) aq⟩
 ·obtain rfl:k=m:=by omega
  exact h
theorem Rt.rx {rest:List Tok} {Q:T->Prop} {b:Bool} (h:Rt e 0 (d+1) ts rest Q b) (hs:sign rest 0 ∉ levels.getD 0 []):Rx e d ts rest Q (decide (d<=60)&&b):=by
 by_cases hd:d<=60
 ·have:(decide (d<=60)&&b)=b:=by simp [hd]
  rw [this];refine ⟨fun hb=>?_,fun hb=>?_⟩
  ·obtain ⟨t,D,X,_⟩:=h.1 hb;exact ⟨t,D,Ev.expr hd (X aq _ (Ev.stop hs))⟩
  ·obtain ⟨pos,D⟩:=h.2 hb;exact ⟨pos,Ev.expr hd D⟩
 ·have:(decide (d<=60)&&b)=false:=by simp [hd]
  rw [this];exact ⟨fun hb=>zgv,fun _=>⟨_,Ev.Zv aq⟩⟩
end
theorem Ev.UA {e:Int} {d:Nat} {ts:List Tok} {x:Rd T} (h:Ev e (.level 9 d) ts x):Ev e (.operand d) ts x:=by
 obtain ⟨f0,h0⟩:=h;refine ⟨f0,fun f hf=>?_⟩;have:=h0 (f+1) aq;rw [rd,ae rfl] at this;exact this
theorem Ro.UA {e:Int} {d:Nat} {ts rest:List Tok} {Q:T->Prop} {b:Bool} (h:Rt e 9 d ts rest Q b):Ro e d ts rest Q b :=
 ⟨fun hb=>by obtain ⟨t,D,_,X⟩:=h.1 hb;exact ⟨t,D,(X rfl).UA⟩,fun hb=>by obtain ⟨pos,D⟩:=h.2 hb;exact ⟨pos,D.UA⟩⟩
theorem u4 {t:Tok} {r:List Tok} {s:ah} (h:kf t=kS s):sign (t::r) 0=s:=by
 simp only [kf,kS,Prod.mk.injEq] at h;simp only [sign,getElem?_cons_zero,dE,h.1,if_true,h.2.2]
theorem EK {t:Tok} {r:List Tok} (h:t.kind≠3):sign (t::r) 0=[]:=by
 simp only [sign,getElem?_cons_zero,dE,ab h]
theorem Lh {j:Nat} (h:9<=j):levels.getD j []=[]:=by
 rw [List.getD_eq_getElem?_getD,getElem?_eq_none (by simpa [levels] using h)];rfl
theorem Gf {r:List Tok} {s:ah} (h:sign r 0=s) (hs:s=[]\/s=[41]\/s=[93]\/s=[44]\/s=[59]\/s=[61]):Stop r 0:=by
 have h9:∀ j,j < 9->∀ s:ah,(s=[]\/s=[41]\/s=[93]\/s=[44]\/s=[59]\/s=[61])->s ∉ levels.getD j []:=by
  intro j hj s hs
  have:∀ j,j < 9->∀ s∈([[],[41],[93],[44],[59],[61]]:List ah),s ∉ levels.getD j []:=by decide
  exact this j hj s (by simpa using hs)
 refine ⟨?_,?_,fun j _=>?_⟩
 ·exact zce
 ·exact zce
 ·rw [h]
  rcases Nat.lt_or_ge j 9 with h0 | h0
  ·exact h9 j h0 s hs
  ·rw [Lh h0];simp
theorem DM {r:List Tok} {s:ah} (h:sign r 0=s) (hs:s=[]\/s=[41]\/s=[93]\/s=[44]\/s=[59]\/s=[61]):sign r 0 ∉ levels.getD 0 []:=by
 exact zce
theorem rJ {s:ah} (h:ia s=true):eS s < 9/\s∈levels.getD (eS s) []/\s≠[91]/\s≠[40]/\∀ j,eS s < j->s ∉ levels.getD j []:=by
 have hm:s∈levels.flatten:=by
  exact zcI
 have key:∀ s∈levels.flatten,eS s < 9/\s∈levels.getD (eS s) []/\s≠[91]/\s≠[40]/\∀ j,j < 9->eS s < j->s ∉ levels.getD j []:=by decide
 obtain ⟨D,X,h3,h4,h5⟩:=key s hm;refine ⟨D,X,h3,h4,fun j hj=>?_⟩
 rcases Nat.lt_or_ge j 9 with h0 | h0
 ·exact h5 j h0 hj
 ·rw [Lh h0];simp
theorem E.ab7 {a:E} (h:a.ok=true):a.lv<=9:=by
 cases a with
 | bin s a b=>simp only [E.ok,aI] at h;exact Nat.le_of_lt (rJ h.1.1).1
 | _=>exact aH _
def mh (a:E):Prop:=∀ (e:Int) (k d:Nat) (ts rest:List Tok),k<=a.lv->a.ok=true->ts.map kf=a.tk->Stop rest k->Rt e k d (ts++rest) rest (fun t=>er t=a.tree) (a.fit d)
def Zd (a:E):Prop:=∀ (e:Int) (k d:Nat) (ts rest:List Tok),k<=9->a.ok=true->ts.map kf=brk a.lv k a.tk->Stop rest k->Rt e k d (ts++rest) rest (fun t=>er t=a.tree) (J8 a.lv k d a.fit)
theorem map_cons {ts:List Tok} {k:K} {l:List K} (h:ts.map kf=k::l):∃ t r,ts=t::r/\kf t=k/\r.map kf=l:=List.map_eq_cons_iff.1 h
theorem dT {ts:List Tok} {l l':List K} (h:ts.map kf=l++l'):∃ a b,ts=a++b/\a.map kf=l/\b.map kf=l':=List.map_eq_append_iff.1 h
theorem jD {ts:List Tok} {k:K} (h:ts.map kf=[k]):∃ t,ts=[t]/\kf t=k:=by
 obtain ⟨t,r,rfl,D,X⟩:=map_cons h
 have:r=[]:=by simpa using X
 subst this;exact ⟨t,rfl,D⟩
theorem eR {t:Tok} {s:ah} (h:kf t=kS s):t.kind=3/\t.s=s:=by simp only [kf,kS,Prod.mk.injEq] at h;exact ⟨h.1,h.2.2⟩
theorem sf {t:Tok} {s:ah} (h:kf t=kN s):t.kind=2/\t.s=s:=by simp only [kf,kN,Prod.mk.injEq] at h;exact ⟨h.1,h.2.2⟩
theorem Se {t:Tok} {n:Int} (h:kf t=kI n):t.kind=1/\t.n=n:=by simp only [kf,kI,Prod.mk.injEq] at h;exact ⟨h.1,h.2.1⟩
theorem mh.rx {a:E} (h:mh a) {e:Int} {d:Nat} {ts rest:List Tok} {s:ah} (ho:a.ok=true) (ht:ts.map kf=a.tk) (hs:sign rest 0=s) (od:s=[]\/s=[41]\/s=[93]\/s=[44]\/s=[59]\/s=[61]) :
  Rx e d (ts++rest) rest (fun t=>er t=a.tree) (decide (d<=60)&&a.fit (d+1)):=(h e 0 (d+1) ts rest (aX _) ho ht (Gf hs od)).rx (DM hs od)
theorem mh.good {a:E} (h:mh a):Zd a:=by
 intro e k d ts rest hk ho ht hs;unfold brk at ht;unfold J8
 by_cases hl:a.lv < k
 ·rw [ae hl] at ht |-;obtain ⟨t,r,rfl,D,X⟩:=map_cons ht;obtain ⟨A,B,rfl,h3,h4⟩:=dT X;obtain ⟨u,rfl,h5⟩:=jD h4;obtain ⟨D,dp⟩:=eR D;obtain ⟨h5,TM⟩:=eR h5;have hx:=h.rx (e:=e) (d:=d+1) (rest:=u::rest) (s:=[41]) ho h3 (by simp only [sign,getElem?_cons_zero,dE,h5,if_true,TM]) zfu;refine Ro.rt ?_ hk hs
  have he:t::(A++[u])++rest=t::(A++u::rest):=by simp
  rw [he]
  by_cases hd:d<=60
  ·have:(decide (d<=60)&&decide (d+1<=60)&&a.fit (d+2))=(decide (d+1<=60)&&a.fit (d+1+1)):=by simp [hd]
   rw [this];refine ⟨fun hb=>?_,fun hb=>?_⟩
   ·obtain ⟨t',k1,k2⟩:=hx.1 hb;exact ⟨t',k1,Ev.par hd D dp h5 TM k2⟩
   ·obtain ⟨pos,k1⟩:=hx.2 hb;exact ⟨pos,Ev.abX hd D dp k1⟩
  ·have:(decide (d<=60)&&decide (d+1<=60)&&a.fit (d+2))=false:=by simp [hd]
   exact zen
 ·rw [ab hl] at ht |-;exact h e k d ts rest aq ho ht hs
theorem u3 {e:Int} {d:Nat} {ts rest:List Tok} {Q:T->Prop} {b:Bool} (h:d<=60->Ro e d ts rest Q b):Ro e d ts rest Q (decide (d<=60)&&b):=by
 by_cases hd:d<=60
 ·have:(decide (d<=60)&&b)=b:=by simp [hd]
  rw [this];exact h hd
 ·have:(decide (d<=60)&&b)=false:=by simp [hd]
  exact zen
theorem oy {s:ah} (h:bN s=true):s.length<=12:=by
 simp only [Go.Sp.bN,aI,decide_eq_true_eq] at h;exact h.1.2
theorem RB (n:Int):mh (.num n):=by
 intro e k d ts rest hk ho ht hs;obtain ⟨t,rfl,D⟩:=jD ht;obtain ⟨D,X⟩:=Se D;refine Ro.rt ?_ hk hs
 have:=u3 (e:=e) (d:=d) (ts:=[t]++rest) (rest:=rest) (Q:=fun t=>er t=(E.num n).tree) (b:=true) fun hd=>⟨fun _=>⟨_,?_,Ev.num hd D⟩,fun h=>by cases h⟩
 ·simpa [E.fit] using this
 ·show er _=_;rw [er,E.tree,X];rfl
theorem Ow (s:ah):mh (.name s):=by
 intro e k d ts rest hk ho ht hs;obtain ⟨t,rfl,D⟩:=jD ht;obtain ⟨D,X⟩:=sf D;simp only [E.ok] at ho;refine Ro.rt ?_ hk hs
 have:=u3 (e:=e) (d:=d) (ts:=[t]++rest) (rest:=rest) (Q:=fun t=>er t=(E.name s).tree) (b:=true) fun hd=>⟨fun _=>⟨_,?_,Ev.name hd D (by rw [X];exact oy ho) hs.a hs.b⟩,fun h=>by cases h⟩
 ·simpa [E.fit] using this
 ·show er _=_;rw [ey,E.tree,X];rfl
theorem U7 (s:ah) {a:E} (C:mh a):mh (.at_ s a):=by
 intro e k d ts rest hk ho ht hs;simp only [E.ok,aI] at ho;rw [E.tk] at ht;obtain ⟨t,r,rfl,D,X⟩:=map_cons ht;obtain ⟨u,r,rfl,h3,h4⟩:=map_cons X;obtain ⟨A,B,rfl,h5,h6⟩:=dT h4;obtain ⟨w,rfl,h7⟩:=jD h6;obtain ⟨D,dp⟩:=sf D;obtain ⟨h3,mr⟩:=eR h3;obtain ⟨h7,mK⟩:=eR h7
 have hl:t.s.length<=12:=by rw [dp];exact oy ho.1
 have hx:=C.rx (e:=e) (d:=d+1) (rest:=w::rest) (s:=[93]) ho.2 h5 (by simp only [sign,getElem?_cons_zero,dE,h7,if_true,mK]) zfu;refine Ro.rt ?_ hk hs
 have he:t::u::(A++[w])++rest=t::u::(A++w::rest):=by simp
 rw [he,E.fit,Bool.and_assoc]
 refine u3 fun hd=>⟨fun hb=>?_,fun hb=>?_⟩
 ·obtain ⟨t',k1,k2⟩:=hx.1 hb;exact ⟨_,by show er _=_;rw [ey,aZ,k1,dp,E.tree];rfl,Ev.ix hd D hl h3 mr h7 mK k2⟩
 ·exact zeh
theorem U9 (s:ah) {a:E} (C:mh a):mh (.un s a):=by
 intro e k d ts rest hk ho ht hs;simp only [E.ok,aI,Bool.or_eq_true,beq_iff_eq] at ho;rw [E.tk] at ht;obtain ⟨t,r,rfl,D,X⟩:=map_cons ht;obtain ⟨D,dp⟩:=eR D;have BI:k<=9:=hk;have hg:=Ro.UA (C.good e 9 (d+1) r rest (aH _) ho.2 X (hs.mono BI));refine Ro.rt ?_ hk hs
 have vC:t.s=[45]\/t.s=[33]\/t.s=[126]:=by rw [dp];rcases ho.1 with (h | h) | h <;> simp [h]
 rw [E.fit]
 refine u3 fun hd=>⟨fun hb=>?_,fun hb=>?_⟩
 ·obtain ⟨t',k1,k2⟩:=hg.1 hb;exact ⟨_,by show er _=_;rw [ey,aZ,k1,dp,E.tree];rfl,Ev.un hd D vC k2⟩
 ·obtain ⟨pos,k1⟩:=hg.2 hb;exact ⟨pos,Ev.unX hd D vC k1⟩
theorem Ry (s:ah) {a b:E} (Ca:mh a) (Cb:mh b):mh (.bin s a b):=by
 intro e k d ts rest hk ho ht hs;simp only [E.ok,aI] at ho;obtain ⟨l1,l2,l3,l4,l5⟩:=rJ ho.1.1;rw [E.tk] at ht;obtain ⟨A,B,rfl,D,X⟩:=dT ht;obtain ⟨t,r,rfl,h3,h4⟩:=map_cons X;obtain ⟨h3,mr⟩:=eR h3;have fk:k<=eS s:=hk;have kW:=hs.mono fk;refine Rt.down (m:=eS s) ?_ l1 fk hs
 have ek:sign (t::(r++rest)) 0=s:=by simp only [sign,getElem?_cons_zero,dE,h3,if_true,mr]
 have ga:=Ca.good e (eS s) d A (t::(r++rest)) aq ho.1.2 D ⟨by rw [ek];exact l3,by rw [ek];exact l4,fun j hj=>by rw [ek];exact l5 j hj⟩;have gb:=Cb.good e (eS s+1) d r rest aq ho.2 h4 (kW.mono aq)
 have he:A++t::r++rest=A++t::(r++rest):=by simp
 rw [he,E.fit]
 change Rt e (eS s) d _ rest _ (J8 a.lv (eS s) d a.fit&&J8 b.lv (eS s+1) d b.fit)
 have vC:t.s∈levels.getD (eS s) []:=by rw [mr];exact l2
 cases hfa:J8 a.lv (eS s) d a.fit with
 | false =>
  refine ⟨fun hb=>zgv,fun _=>ga.2 hfa⟩
 | true =>
  obtain ⟨ta,k1,k2,_⟩:=ga.1 hfa
  cases hfb:J8 b.lv (eS s+1) d b.fit with
  | false =>
   refine ⟨fun hb=>zgv,fun _=>?_⟩;obtain ⟨pos,k3⟩:=gb.2 hfb;exact ⟨pos,k2 l1 _ (Ev.goX h3 vC k3)⟩
  | true =>
   refine ⟨fun _=>?_,fun hb=>zgv⟩;obtain ⟨tb,k3,k4,k5⟩:=gb.1 hfb
   have k6:Ev e (.level (eS s+1) d) (r++rest) (.ok (tb,rest)):=by
    rcases Nat.lt_or_ge (eS s+1) 9 with h9 | h9
    ·exact k4 h9 _ (Ev.stop (kW.c _ aq))
    ·have:eS s+1=9:=by omega
     rw [this] at k5 |-;exact k5 rfl
   exact ⟨one 6 t.at_ t.s [ta,tb],by show er _=_;rw [ey,aZ,aZ,aZ,k1,k3,mr,E.tree],fun _ x hx=>k2 l1 x (Ev.go h3 vC k6 hx),fun h9=>by omega⟩
def TG (k:K):Prop:=k.1=1\/k.1=2\/(k.1=3/\(k.2.2=[45]\/k.2.2=[33]\/k.2.2=[126]\/k.2.2=[40]))
theorem E.head:∀ (a:E),a.ok=true->∃ k r,a.tk=k::r/\TG k
 | .num n,_=>⟨_,_,rfl,.inl rfl⟩
 | .name s,_=>⟨_,_,rfl,.inr (.inl rfl)⟩
 | .at_ s a,_=>⟨_,_,rfl,.inr (.inl rfl)⟩
 | .call s l,_=>⟨_,_,rfl,.inr (.inl rfl)⟩
 | .un s a,h=>⟨_,_,rfl,.inr (.inr ⟨rfl,by simp only [E.ok,aI,Bool.or_eq_true,beq_iff_eq] at h;rcases h.1 with (h | h) | h <;> simp [h]⟩)⟩
 | .bin s a b,h=>by
  simp only [E.ok,aI] at h;obtain ⟨k,r,D,X⟩:=E.head a h.1.2;rw [E.tk,brk];split
  ·exact ⟨_,_,rfl,.inr (.inr ⟨rfl,by simp⟩)⟩
  ·rw [D];exact ⟨k,_,rfl,X⟩
theorem B5 {t:Tok} {r:List Tok} (h:TG (kf t)):sign (t::r) 0=[]\/sign (t::r) 0=[45]\/sign (t::r) 0=[33]\/sign (t::r) 0=[126]\/sign (t::r) 0=[40]:=by
 rcases h with h | h | ⟨h,h'⟩
 ·left;exact EK (by simp only [kf] at h;omega)
 ·left;exact EK (by simp only [kf] at h;omega)
 ·right
  have:sign (t::r) 0=t.s:=by simp only [kf] at h;simp only [sign,getElem?_cons_zero,dE,h,if_true]
  rw [this];exact h'
def AL (l:List E):Prop:=∀ (e:Int) (d:Nat) (acc:List T) (ts rest:List Tok) (u:Tok),E.dA l=true->acc≠[]->ts.map kf=E.su l->u.kind=3->u.s=[41] ->
 (E.fits l d=true->∃ ys,aZ ys=E.trees l/\Ea e d acc (ts++u::rest) (.ok (acc++ys,rest)))/\(E.fits l d=false->∃ pos,Ea e d acc (ts++u::rest) (.error (9,pos)))
theorem Oq:AL []:=by
 intro e d acc ts rest u _ ha ht hu gS
 have:ts=[]:=by simpa [E.su] using ht
 subst this;exact ⟨fun _=>⟨[],rfl,by rw [ef];exact Ea.nil hu gS⟩,fun h=>by simp [E.fits] at h⟩
theorem Gg {l:List E} {ts rest:List Tok} {u:Tok} (ht:ts.map kf=E.su l) (hu:u.kind=3) (gS:u.s=[41]):∃ s,sign (ts++u::rest) 0=s/\(s=[]\/s=[41]\/s=[93]\/s=[44]\/s=[59]\/s=[61]):=by
 cases l with
 | nil =>
  have:ts=[]:=by simpa [E.su] using ht
  subst this;exact ⟨[41],by simp only [nil_append,sign,getElem?_cons_zero,dE,hu,if_true,gS],by simp⟩
 | cons a l =>
  rw [E.su] at ht;obtain ⟨t,r,rfl,D,_⟩:=map_cons ht;exact ⟨[44],u4 D,by simp⟩
theorem Mm {a:E} {l:List E} (Ca:mh a) (Cl:AL l):AL (a::l):=by
 intro e d acc ts rest u ho ha ht hu gS;simp only [E.dA,aI] at ho;rw [E.su] at ht;obtain ⟨t,r,rfl,D,X⟩:=map_cons ht;obtain ⟨A,B,rfl,h3,h4⟩:=dT X;obtain ⟨D,dp⟩:=eR D;obtain ⟨s,lX,lY⟩:=Gg (rest:=rest) h4 hu gS;have hx:=Ca.rx (e:=e) (d:=d) (rest:=B++u::rest) (s:=s) ho.1 h3 lX lY
 have he:t::(A++B)++u::rest=t::(A++(B++u::rest)):=by simp
 rw [he,E.fits]
 cases hfa:decide (d<=60)&&a.fit (d+1) with
 | false =>
  refine ⟨fun hb=>zgh,fun _=>?_⟩;obtain ⟨pos,k1⟩:=hx.2 hfa;exact ⟨pos,Ea.ZZ ha D dp k1⟩
 | true =>
  obtain ⟨ta,k1,k2⟩:=hx.1 hfa;have hl:=Cl e d (acc++[ta]) B rest u ho.2 zfu h4 hu gS;refine ⟨fun hb=>?_,fun hb=>?_⟩
  ·obtain ⟨ys,k3,k4⟩:=hl.1 zfL;exact ⟨ta::ys,by rw [aZ,k1,k3,E.trees],Ea.more ha D dp k2 (by rw [fP] at k4;exact k4)⟩
  ·obtain ⟨pos,k3⟩:=hl.2 zfL;exact ⟨pos,Ea.more ha D dp k2 k3⟩
theorem Ov (s:ah) {l:List E} (Cf:∀ a r,l=a::r->mh a/\AL r):mh (.call s l):=by
 intro e k d ts rest hk ho ht hs;simp only [E.ok,aI] at ho;rw [E.tk] at ht;obtain ⟨t,r,rfl,D,X⟩:=map_cons ht;obtain ⟨u,r,rfl,h3,h4⟩:=map_cons X;obtain ⟨A,B,rfl,h5,h6⟩:=dT h4;obtain ⟨w,rfl,h7⟩:=jD h6;obtain ⟨D,dp⟩:=sf D;obtain ⟨h3,mr⟩:=eR h3;obtain ⟨h7,mK⟩:=eR h7
 have hl:t.s.length<=12:=by rw [dp];exact oy ho.1
 refine Ro.rt ?_ hk hs
 have he:t::u::(A++[w])++rest=t::u::(A++w::rest):=by simp
 rw [he,E.fit]
 refine u3 fun hd=>?_
 have key:(E.fits l (d+1)=true->∃ ys,aZ ys=E.trees l/\Ea e (d+1) [] (A++w::rest) (.ok (ys,rest)))/\(E.fits l (d+1)=false->∃ pos,Ea e (d+1) [] (A++w::rest) (.error (9,pos))):=by
  cases l with
  | nil =>
   have:A=[]:=by simpa [E.o9] using h5
   subst this;exact ⟨fun _=>⟨[],rfl,Ea.nil h7 mK⟩,fun h=>by simp [E.fits] at h⟩
  | cons a l =>
   obtain ⟨Ca,Cl⟩:=Cf a l rfl;have BL:=ho.2;simp only [E.dA,aI] at BL;rw [E.o9] at h5;obtain ⟨A,B,rfl,h3,h4⟩:=dT h5;obtain ⟨s,lX,lY⟩:=Gg (rest:=rest) h4 h7 mK;have hx:=Ca.rx (e:=e) (d:=d+1) (rest:=B++w::rest) (s:=s) BL.1 h3 lX lY;rw [fP]
   have bT:sign (A++(B++w::rest)) 0≠[41]:=by
    obtain ⟨kk,rr,k1,k2⟩:=E.head a BL.1;rw [k1] at h3;obtain ⟨t0,r0,rfl,k3,_⟩:=map_cons h3
    rcases B5 (r:=r0++(B++w::rest)) (by rw [k3];exact k2) with h | h | h | h | h <;> (rw [cons_append,h];decide)
   rw [E.fits]
   cases hfa:decide (d+1<=60)&&a.fit (d+1+1) with
   | false =>
    refine ⟨fun hb=>zgh,fun _=>?_⟩;obtain ⟨pos,k1⟩:=hx.2 hfa;exact ⟨pos,Ea.WW (a:=T.mk ⟨0,0,0,[],[]⟩ []) bT k1⟩
   | true =>
    obtain ⟨ta,k1,k2⟩:=hx.1 hfa;have qx:=Cl e (d+1) [ta] B rest w BL.2 zfu h4 h7 mK;refine ⟨fun hb=>?_,fun hb=>?_⟩
    ·obtain ⟨ys,k3,k4⟩:=qx.1 zfL;exact ⟨ta::ys,by rw [aZ,k1,k3,E.trees],Ea.first bT k2 k4⟩
    ·obtain ⟨pos,k3⟩:=qx.2 zfL;exact ⟨pos,Ea.first bT k2 k3⟩
 refine ⟨fun hb=>?_,fun hb=>?_⟩
 ·obtain ⟨ys,k1,k2⟩:=key.1 hb;exact ⟨_,by show er _=_;rw [ey,k1,dp,E.tree],Ev.call hd D hl h3 mr k2⟩
 ·obtain ⟨pos,k1⟩:=key.2 hb;exact ⟨pos,Ev.Zn hd D hl h3 mr k1⟩
mutual
theorem core:∀ (a:E),mh a
 | .num n=>RB n
 | .name s=>Ow s
 | .at_ s a=>U7 s (core a)
 | .call s l=>Ov s (Zo l)
 | .un s a=>U9 s (core a)
 | .bin s a b=>Ry s (core a) (core b)
theorem Zo:∀ (l:List E),∀ a r,l=a::r->mh a/\AL r
 | []=>fun a r h=>by cases h
 | a::r=>fun a' r' h=>by cases h;exact ⟨core a,Ou r⟩
theorem Ou:∀ (l:List E),AL l
 | []=>Oq
 | a::l=>Mm (core a) (Ou l)
end
inductive S where
 | set (s:ah) (a:E)
 | put (s:ah) (a b:E)
 | if1 (c:E) (b:List S)
 | if2 (c:E) (b b2:List S)
 | while_ (c:E) (b:List S)
 | ret (a:E)
 | do_ (a:E)
 | var (s:ah) (a:E)
mutual
def S.tk:S->List K
 | .set s a=>kN s::kS [61]::(a.tk++[kS [59]])
 | .put s a b=>kN s::kS [91]::(a.tk++kS [93]::kS [61]::(b.tk++[kS [59]]))
 | .if1 c b=>kS gE::kS [40]::(c.tk++kS [41]::kS [123]::(S.o9 b++[kS [125]]))
 | .if2 c b b2=>kS gE::kS [40]::(c.tk++kS [41]::kS [123]::(S.o9 b++kS [125]::kS ju::kS [123]::(S.o9 b2++[kS [125]])))
 | .while_ c b=>kS ig::kS [40]::(c.tk++kS [41]::kS [123]::(S.o9 b++[kS [125]]))
 | .ret a=>kS gU::(a.tk++[kS [59]])
 | .do_ a=>a.tk++[kS [59]]
 | .var s a=>kS nB::kN s::kS [61]::(a.tk++[kS [59]])
def S.o9:List S->List K
 | []=>[]
 | a::l=>a.tk++S.o9 l
end
mutual
def S.tree:S->T
 | .set s a=>.mk ⟨7,0,0,s,[]⟩ [a.tree]
 | .put s a b=>.mk ⟨8,0,0,s,[]⟩ [a.tree,b.tree]
 | .if1 c b=>.mk ⟨9,0,0,[],[]⟩ [c.tree,.mk ⟨14,0,0,[],[]⟩ (S.trees b)]
 | .if2 c b b2=>.mk ⟨9,0,0,[],[]⟩ [c.tree,.mk ⟨14,0,0,[],[]⟩ (S.trees b),.mk ⟨14,0,0,[],[]⟩ (S.trees b2)]
 | .while_ c b=>.mk ⟨10,0,0,[],[]⟩ [c.tree,.mk ⟨14,0,0,[],[]⟩ (S.trees b)]
 | .ret a=>.mk ⟨11,0,0,[],[]⟩ [a.tree]
 | .do_ a=>.mk ⟨12,0,0,[],[]⟩ [a.tree]
 | .var s a=>.mk ⟨13,0,0,s,[]⟩ [a.tree]
def S.trees:List S->List T
 | []=>[]
 | a::l=>a.tree::S.trees l
end
def rY (a:E) (d:Nat):Bool:=decide (d<=60)&&a.fit (d+1)
mutual
def S.fit:S->Nat->Bool
 | .set _ a,d=>decide (d<=60)&&rY a (d+1)
 | .put s a b,d=>decide (d<=60)&&(rY (.at_ s a) (d+1)&&rY b (d+1))
 | .if1 c b,d=>decide (d<=60)&&(rY c (d+1)&&(decide (d+1<=60)&&S.fits b (d+2)))
 | .if2 c b b2,d=>decide (d<=60)&&(rY c (d+1)&&((decide (d+1<=60)&&S.fits b (d+2))&&(decide (d+1<=60)&&S.fits b2 (d+2))))
 | .while_ c b,d=>decide (d<=60)&&(rY c (d+1)&&(decide (d+1<=60)&&S.fits b (d+2)))
 | .ret a,d=>decide (d<=60)&&rY a (d+1)
 | .do_ a,d=>decide (d<=60)&&rY a (d+1)
 | .var _ a,d=>decide (d<=60)&&rY a (d+1)
def S.fits:List S->Nat->Bool
 | [],_=>true
 | a::l,d=>a.fit d&&S.fits l d
end
mutual
def S.ok:S->Bool
 | .set s a=>bN s&&a.ok
 | .put s a b=>bN s&&(a.ok&&b.ok)
 | .if1 c b=>c.ok&&S.dA b
 | .if2 c b b2=>c.ok&&(S.dA b&&S.dA b2)
 | .while_ c b=>c.ok&&S.dA b
 | .ret a=>a.ok
 | .do_ a=>a.ok
 | .var s a=>bN s&&a.ok
def S.dA:List S->Bool
 | []=>true
 | a::l=>a.ok&&S.dA l
end
def Es (e:Int) (j:ur) (ts:List Tok) (x:Rd T):Prop:=∃ f0,∀ f,f0<=f->rs e f j ts=x
def Eb (e:Int) (d:Nat) (acc:List T) (ts:List Tok) (x:Rd (List T)):Prop:=∃ f0,∀ f,f0<=f->rs.body e f d acc ts=x
theorem Ev.ex {e:Int} {d:Nat} {ts:List Tok} {x:Rd T} (h:Ev e (.expr d) ts x):Go.Xp.expr e d ts=x:=by
 obtain ⟨f0,h0⟩:=h;rw [<-Ef (e:=e) (d:=d) (ts:=ts) (f:=f0+(20 * ts.length+12)) aq];exact h0 _ aq
def Xx (e:Int) (d:Nat) (ts rest:List Tok) (Q:T->Prop) (b:Bool):Prop :=
 (b=true->∃ t,Q t/\expr e d ts=.ok (t,rest))/\(b=false->∃ pos,expr e d ts=.error (9,pos))
theorem Rx.xx {e:Int} {d:Nat} {ts rest:List Tok} {Q:T->Prop} {b:Bool} (h:Rx e d ts rest Q b):Xx e d ts rest Q b :=
 ⟨fun hb=>by obtain ⟨t,D,X⟩:=h.1 hb;exact ⟨t,D,X.ex⟩,fun hb=>by obtain ⟨pos,D⟩:=h.2 hb;exact ⟨pos,D.ex⟩⟩
theorem E.xx {a:E} {e:Int} {d:Nat} {ts rest:List Tok} {s:ah} (ho:a.ok=true) (ht:ts.map kf=a.tk) (hs:sign rest 0=s) (od:s=[]\/s=[41]\/s=[93]\/s=[44]\/s=[59]\/s=[61]) :
  Xx e d (ts++rest) rest (fun t=>er t=a.tree) (rY a d):=((core a).rx ho ht hs od).xx
def Sx (e:Int) (j:ur) (ts rest:List Tok) (Q:T->Prop) (b:Bool):Prop :=
 (b=true->∃ t,Q t/\Es e j ts (.ok (t,rest)))/\(b=false->∃ pos,Es e j ts (.error (9,pos)))
section
variable {e:Int} {d:Nat} {ts rest:List Tok} {Q:T->Prop} {b:Bool}
theorem uB {j:ur} {x:Rd T} (hs:∀ f,rs e (f+1) j ts=x):Es e j ts x :=
 ⟨1,fun f hf=>by obtain ⟨f,rfl⟩:∃ g,f=g+1:=⟨f - 1,by omega⟩;exact hs f⟩
theorem rO (h:d<=60->Sx e (.stmt d) ts rest Q b):Sx e (.stmt d) ts rest Q (decide (d<=60)&&b):=by
 by_cases hd:d<=60
 ·have:(decide (d<=60)&&b)=b:=by simp [hd]
  rw [this];exact h hd
 ·have:(decide (d<=60)&&b)=false:=by simp [hd]
  exact zde
theorem sY {u:Tok} {s:ah} (hu:u.kind=3) (gS:u.s=s):aL e s (u::rest)=.ok rest:=by
 have hs:sign (u::rest) 0=s:=by simp only [sign,getElem?_cons_zero,dE,hu,if_true,gS]
 unfold aL;rw [ae hs];rfl
theorem vS {u:Tok} {s:ah} (hu:u.kind=3) (gS:u.s=s):sign (u::rest) 0=s:=by simp only [sign,getElem?_cons_zero,dE,hu,if_true,gS]
theorem xL {a:E} {u w:Tok} {A:List Tok} {sa sb:ah} (ho:a.ok=true) (ht:A.map kf=a.tk) (hu:u.kind=3) (gS:u.s=sa) (hw:w.kind=3) (FM:w.s=sb) (XY:sb=[]\/sb=[41]\/sb=[93]\/sb=[44]\/sb=[59]\/sb=[61]) :
  (rY a d=true->∃ t,er t=a.tree/\inner e d sa sb (u::(A++w::rest))=.ok (t,rest))/\(rY a d=false->∃ pos,inner e d sa sb (u::(A++w::rest))=.error (9,pos)):=by
 have hx:=E.xx (e:=e) (d:=d) (rest:=w::rest) ho ht (vS hw FM) XY;unfold inner;rw [sY hu gS];refine ⟨fun hb=>?_,fun hb=>?_⟩
 ·obtain ⟨t,D,X⟩:=hx.1 hb;exact ⟨t,D,by simp only;rw [X];simp only;rw [sY hw FM]⟩
 ·obtain ⟨pos,D⟩:=hx.2 hb;exact ⟨pos,by simp only;rw [D]⟩
theorem LF {a:E} {v u w:Tok} {A:List Tok} (ho:a.ok=true) (hv:v.kind=2) (hvl:v.s.length<=12) (ht:A.map kf=a.tk) (hu:u.kind=3) (gS:u.s=[61]) (hw:w.kind=3) (FM:w.s=[59]) :
  (rY a d=true->∃ t,er t=a.tree/\mV e d (v::u::(A++w::rest))=.ok ((v.s,t),rest))/\(rY a d=false->∃ pos,mV e d (v::u::(A++w::rest))=.error (9,pos)):=by
 have hi:=xL (e:=e) (d:=d) (rest:=rest) ho ht hu gS hw FM zfu;unfold mV;rw [uY hv hvl];refine ⟨fun hb=>?_,fun hb=>?_⟩
 ·obtain ⟨t,D,X⟩:=hi.1 hb;exact ⟨t,D,by simp only;rw [X]⟩
 ·obtain ⟨pos,D⟩:=hi.2 hb;exact ⟨pos,by simp only;rw [D]⟩
theorem kg {t:Tok} {s:ah} (h:t.kind=2) (hs:s≠[]):sign (t::rest) 0≠s:=by rw [EK aq];exact fun h=>hs h.symm
def tG (s:S):Prop:=∀ (e:Int) (d:Nat) (ts rest:List Tok),s.ok=true->ts.map kf=s.tk->sign rest 0≠ju->Sx e (.stmt d) (ts++rest) rest (fun t=>er t=s.tree) (s.fit d)
theorem RE (s:ah) (a:E):tG (.set s a):=by
 intro e d ts rest ho ht _;simp only [S.ok,aI] at ho;rw [S.tk] at ht;obtain ⟨t,r,rfl,D,X⟩:=map_cons ht;obtain ⟨u,r,rfl,h3,h4⟩:=map_cons X;obtain ⟨A,B,rfl,h5,h6⟩:=dT h4;obtain ⟨w,rfl,h7⟩:=jD h6;obtain ⟨D,dp⟩:=sf D;obtain ⟨h3,mr⟩:=eR h3;obtain ⟨h7,mK⟩:=eR h7
 have he:t::u::(A++[w])++rest=t::u::(A++w::rest):=by simp
 have hx:=LF (e:=e) (d:=d+1) (rest:=rest) ho.2 D (by rw [dp];exact oy ho.1) h5 h3 mr h7 mK;rw [he,S.fit];have iG:t.kind=2/\sign (t::u::(A++w::rest)) 1=[61]:=⟨D,by simp only [sign,List.getElem?_cons_succ,getElem?_cons_zero,dE,h3,if_true,mr]⟩
 refine rO fun hd=>⟨fun hb=>?_,fun hb=>?_⟩
 ·obtain ⟨t',k1,k2⟩:=hx.1 hb;refine ⟨one 7 t.at_ t.s [t'],by show er _=_;rw [ey,aZ,k1,dp,S.tree];rfl,uB fun f=>?_⟩;refine zdS ?_;rw [ae iG,k2]
 ·obtain ⟨pos,k1⟩:=hx.2 hb;refine ⟨pos,uB fun f=>?_⟩;refine zdS ?_;rw [ae iG,k1]
theorem RF (s:ah) (a:E):tG (.var s a):=by
 intro e d ts rest ho ht _;simp only [S.ok,aI] at ho;rw [S.tk] at ht;obtain ⟨v,r,rfl,h0,ht⟩:=map_cons ht;obtain ⟨t,r,rfl,D,X⟩:=map_cons ht;obtain ⟨u,r,rfl,h3,h4⟩:=map_cons X;obtain ⟨A,B,rfl,h5,h6⟩:=dT h4;obtain ⟨w,rfl,h7⟩:=jD h6;obtain ⟨h0,tZ⟩:=eR h0;obtain ⟨D,dp⟩:=sf D;obtain ⟨h3,mr⟩:=eR h3;obtain ⟨h7,mK⟩:=eR h7
 have he:v::t::u::(A++[w])++rest=v::t::u::(A++w::rest):=by simp
 have hx:=LF (e:=e) (d:=d+1) (rest:=rest) ho.2 D (by rw [dp];exact oy ho.1) h5 h3 mr h7 mK;rw [he,S.fit]
 refine rO fun hd=>⟨fun hb=>?_,fun hb=>?_⟩
 ·obtain ⟨t',k1,k2⟩:=hx.1 hb;refine ⟨one 13 v.at_ t.s [t'],by show er _=_;rw [ey,aZ,k1,dp,S.tree];rfl,uB fun f=>?_⟩;rw [rs,ab aq];simp only;rw [ae (vS h0 tZ),tail_cons,k2];rfl
 ·obtain ⟨pos,k1⟩:=hx.2 hb;refine ⟨pos,uB fun f=>?_⟩;rw [rs,ab aq];simp only;rw [ae (vS h0 tZ),tail_cons,k1]
theorem RD (a:E):tG (.ret a):=by
 intro e d ts rest ho ht _;simp only [S.ok] at ho;rw [S.tk] at ht;obtain ⟨v,r,rfl,h0,h4⟩:=map_cons ht;obtain ⟨A,B,rfl,h5,h6⟩:=dT h4;obtain ⟨w,rfl,h7⟩:=jD h6;obtain ⟨h0,tZ⟩:=eR h0;obtain ⟨h7,mK⟩:=eR h7
 have he:v::(A++[w])++rest=v::(A++w::rest):=by simp
 have hx:=E.xx (e:=e) (d:=d+1) (rest:=w::rest) ho h5 (vS h7 mK) zfu;rw [he,S.fit];have hs:=vS (rest:=A++w::rest) h0 tZ
 refine rO fun hd=>⟨fun hb=>?_,fun hb=>?_⟩
 ·obtain ⟨t',k1,k2⟩:=hx.1 hb;refine ⟨one 11 v.at_ [] [t'],by show er _=_;rw [ey,aZ,k1,S.tree];rfl,uB fun f=>?_⟩;rw [rs,ab aq];simp only;rw [ab zfK,ab zfK,ae hs,tail_cons,k2];simp only;rw [sY h7 mK];rfl
 ·obtain ⟨pos,k1⟩:=hx.2 hb;refine ⟨pos,uB fun f=>?_⟩;rw [rs,ab aq];simp only;rw [ab zfK,ab zfK,ae hs,tail_cons,k1]
def td (l:List K):Prop:=∀ k∈l,k.1=3->k.2.2≠[61]
theorem tf {l l':List K}:td (l++l')↔td l/\td l':=by
 unfold td;constructor
 ·intro h;exact ⟨fun k hk=>h k (List.mem_append_left _ hk),fun k hk=>h k (List.mem_append_right _ hk)⟩
 ·rintro ⟨D,X⟩ k hk;rcases nt hk with hk | hk
  ·exact D k hk
  ·exact X k hk
theorem iU {a:K} {l:List K}:td (a::l)↔(a.1=3->a.2.2≠[61])/\td l:=by
 unfold td;simp only [List.mem_cons,forall_eq_or_imp]
theorem rq:td []:=fun k hk=>by cases hk
theorem Av {lv k:Nat} {x:List K} (h:td x):td (brk lv k x):=by
 unfold brk;split
 ·rw [iU,tf,iU];exact ⟨fun _=>by decide,h,fun _=>by decide,rq⟩
 ·exact h
mutual
theorem E.Ba:∀ (a:E),a.ok=true->td a.tk
 | .num n,_=>by rw [E.tk,iU];exact ⟨fun h=>zfA,rq⟩
 | .name s,_=>by rw [E.tk,iU];exact ⟨fun h=>zfA,rq⟩
 | .at_ s a,h=>by
  simp only [E.ok,aI] at h;rw [E.tk,iU,iU,tf,iU];exact ⟨fun h=>zfA,fun _=>ao,E.Ba a h.2,fun _=>ao,rq⟩
 | .call s l,h=>by
  simp only [E.ok,aI] at h;rw [E.tk,iU,iU,tf,iU];exact ⟨fun h=>zfA,fun _=>ao,(E.Qf l h.2).1,fun _=>ao,rq⟩
 | .un s a,h=>by
  simp only [E.ok,aI,Bool.or_eq_true,beq_iff_eq] at h;rw [E.tk,iU];exact ⟨fun _=>(by rcases h.1 with (h | h) | h <;> (simp only [kS,h];decide)),Av (E.Ba a h.2)⟩
 | .bin s a b,h=>by
  simp only [E.ok,aI] at h;rw [E.tk,tf,iU];exact ⟨Av (E.Ba a h.1.2),fun _ h0=>(by simp only [kS] at h0;rw [h0] at h;exact absurd h.1.1 ao),Av (E.Ba b h.2)⟩
theorem E.Qf:∀ (l:List E),E.dA l=true->td (E.o9 l)/\td (E.su l)
 | [],_=>by rw [E.o9,E.su];exact ⟨rq,rq⟩
 | a::l,h=>by
  simp only [E.dA,aI] at h;have D:=E.Ba a h.1;have X:=E.Qf l h.2;rw [E.o9,E.su,tf,iU,tf];exact ⟨⟨D,X.2⟩,fun _=>ao,D,X.2⟩
end
theorem Nv {ts:List Tok} {k:Nat} {s:ah} (h:∀ t,ts[k]?=some t->t.kind=3->t.s≠s) (hs:s≠[]):sign ts k≠s:=by
 unfold sign
 cases hk:ts[k]? with
 | none=>exact fun h=>hs h.symm
 | some t =>
  simp only [dE];split
  ·rename_i h3;exact h t hk h3
  ·exact fun h=>hs h.symm
theorem Jr {a:E} {A:List Tok} {w:Tok} (ho:a.ok=true) (h5:A.map kf=a.tk) (hw:w.s≠[61]):sign (A++w::rest) 1≠[61]:=by
 obtain ⟨k0,r0,hh,_⟩:=E.head a ho;refine Nv (fun t ht h3 vC=>?_) ao
 have hlen:1<=A.length:=by
  have:=congrArg List.length h5;rw [hh] at this;simp at this;omega
 rw [getElem?_append] at ht;split at ht
 ·have hm:kf t∈a.tk:=by rw [<-h5];exact List.mem_map_of_mem (br ht)
  exact E.Ba a ho _ hm h3 vC
 ·have:1 - A.length=0:=by omega
  rw [this] at ht;cases ht;exact hw vC
theorem U8 (a:E):tG (.do_ a):=by
 intro e d ts rest ho ht _;simp only [S.ok] at ho;rw [S.tk] at ht;obtain ⟨A,B,rfl,h5,h6⟩:=dT ht;obtain ⟨w,rfl,h7⟩:=jD h6;obtain ⟨h7,mK⟩:=eR h7
 have he:A++[w]++rest=A++w::rest:=by simp
 have hx:=E.xx (e:=e) (d:=d+1) (rest:=w::rest) ho h5 (vS h7 mK) zfu;have Df:=Jr (rest:=rest) (w:=w) ho h5 (by rw [mK];decide);obtain ⟨k0,r0,hh,hf⟩:=E.head a ho;obtain ⟨t,r,rfl,h8,_⟩:=map_cons (by rw [<-hh];exact h5);rw [he,S.fit];rw [cons_append] at hx Df |-;have hfs:=B5 (r:=r++w::rest) (by rw [h8];exact hf)
 have iG:¬ (t.kind=2/\sign (t::(r++w::rest)) 1=[61]):=fun h=>Df h.2
 have cl:∀ s:ah,s=nB\/s=gE\/s=ig\/s=gU->sign (t::(r++w::rest)) 0≠s:=by
  intro s hs;rcases hfs with h | h | h | h | h <;> rcases hs with rfl | rfl | rfl | rfl <;> (rw [h];decide)
 refine rO fun hd=>⟨fun hb=>?_,fun hb=>?_⟩
 ·obtain ⟨t',k1,k2⟩:=hx.1 hb;refine ⟨one 12 t.at_ [] [t'],by show er _=_;rw [ey,aZ,k1,S.tree];rfl,uB fun f=>?_⟩;refine zcN ?_;rw [ab iG,k2];simp only;rw [ab (fun h=>by have:=h.2.2;rw [vS h7 mK] at this;revert this;decide),sY h7 mK]
 ·obtain ⟨pos,k1⟩:=hx.2 hb;refine ⟨pos,uB fun f=>?_⟩;refine zcN ?_;rw [ab iG,k1]
theorem aay {s:ah} {a:E} {t u w:Tok} {A:List Tok} {sg:ah} (hn:bN s=true) (ho:a.ok=true) (D:t.kind=2) (dp:t.s=s) (h3:u.kind=3) (mr:u.s=[91]) (h5:A.map kf=a.tk) (h7:w.kind=3) (mK:w.s=[93]) (hs:sign rest 0=sg) (od:sg=[]\/sg=[41]\/sg=[93]\/sg=[44]\/sg=[59]\/sg=[61]) :
  Xx e d (t::u::(A++w::rest)) rest (fun x=>er x=(E.at_ s a).tree/\x.n.kind=3/\x.n.at_=t.at_/\x.n.s=s/\∃ y,x.kids=[y]/\er y=a.tree) (rY (.at_ s a) d):=by
 have hl:t.s.length<=12:=by rw [dp];exact oy hn
 have hx:=(core a).rx (e:=e) (d:=d+1+1) (rest:=w::rest) (s:=[93]) ho h5 (vS h7 mK) zfu
 have hro:Ro e (d+1) (t::u::(A++w::rest)) rest (fun x=>er x=(E.at_ s a).tree/\x.n.kind=3/\x.n.at_=t.at_/\x.n.s=s/\∃ y,x.kids=[y]/\er y=a.tree) ((E.at_ s a).fit (d+1)):=by
  rw [E.fit,Bool.and_assoc]
  refine u3 fun hd=>⟨fun hb=>?_,fun hb=>?_⟩
  ·obtain ⟨t',k1,k2⟩:=hx.1 hb;exact ⟨one 3 t.at_ t.s [t'],⟨by rw [ey,aZ,k1,dp,E.tree];rfl,rfl,rfl,dp,_,rfl,k1⟩,Ev.ix hd D hl h3 mr h7 mK k2⟩
  ·exact zeh
 exact ((hro.rt (aX 9) (Gf hs od)).rx (DM hs od)).xx
theorem RC (s:ah) (a b:E):tG (.put s a b):=by
 intro e d ts rest ho ht _;simp only [S.ok,aI] at ho;rw [S.tk] at ht;obtain ⟨t,r,rfl,D,X⟩:=map_cons ht;obtain ⟨u,r,rfl,h3,h4⟩:=map_cons X;obtain ⟨A,B,rfl,h5,h6⟩:=dT h4;obtain ⟨w,r,rfl,h7,h8⟩:=map_cons h6;obtain ⟨q,r,rfl,h9,oO⟩:=map_cons h8;obtain ⟨B,C,rfl,qP,nN⟩:=dT oO;obtain ⟨z,rfl,fH⟩:=jD nN;obtain ⟨D,dp⟩:=sf D;obtain ⟨h3,mr⟩:=eR h3;obtain ⟨h7,mK⟩:=eR h7;obtain ⟨h9,FC⟩:=eR h9;obtain ⟨fH,Cc⟩:=eR fH
 have he:t::u::(A++w::q::(B++[z]))++rest=t::u::(A++w::(q::(B++z::rest))):=by simp
 have X2:=vS (rest:=B++z::rest) h9 FC;have hx:=aay (e:=e) (d:=d+1) (rest:=q::(B++z::rest)) ho.1 ho.2.1 D dp h3 mr h5 h7 mK X2 zfu;have hv:=xL (e:=e) (d:=d+1) (rest:=rest) ho.2.2 qP h9 FC fH Cc zfu;rw [he,S.fit]
 have iG:¬ (t.kind=2/\sign (t::u::(A++w::(q::(B++z::rest)))) 1=[61]):=fun h=>by
  have:=h.2;simp only [sign,List.getElem?_cons_succ,getElem?_cons_zero,dE,h3,if_true,mr] at this
  revert this;decide
 have cl:∀ s:ah,s≠[]->sign (t::u::(A++w::(q::(B++z::rest)))) 0≠s:=fun s hs=>kg D hs
 refine rO fun hd=>?_
 cases hfa:rY (.at_ s a) (d+1) with
 | false =>
  refine ⟨fun hb=>zgv,fun _=>?_⟩;obtain ⟨pos,k1⟩:=hx.2 hfa;refine ⟨pos,uB fun f=>?_⟩;refine zbt ?_;rw [ab iG,k1]
 | true =>
  obtain ⟨x,⟨_,k1,k2,k3,y,k4,k5⟩,k6⟩:=hx.1 hfa;refine ⟨fun hb=>?_,fun hb=>?_⟩
  ·obtain ⟨v,k7,k8⟩:=hv.1 zfL;refine ⟨one 8 t.at_ s [y,v],by show er _=_;rw [ey,aZ,aZ,k5,k7,S.tree];rfl,uB fun f=>?_⟩;refine zbt ?_;rw [ab iG,k6];simp only;rw [ae ⟨k1,k2,X2⟩,k8];simp only;rw [k3,k4];rfl
  ·obtain ⟨pos,k7⟩:=hv.2 zfL;refine ⟨pos,uB fun f=>?_⟩;refine zbt ?_;rw [ab iG,k6];simp only;rw [ae ⟨k1,k2,X2⟩,k7]
end
end Go.Xp
