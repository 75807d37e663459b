/- Part 1 of proofs that are told in their last texts. -/
open List (length_cons mem_map)
set_option linter.unusedVariables false
set_option linter.unusedSimpArgs false
set_option maxRecDepth 100000
namespace Go
theorem zaa {A B:Prop} (h:B) (s:PLift B->A:=by intro hQ;refine oo ?_;refine GL.wk (Wk.freeze (i:=0) rfl rfl rfl (aY _)) ?_;refine GL.wk (Wk.freeze (i:=1) rfl rfl rfl (aY _)) ?_;refine GN (by simp only [rW,qH];rfl) ?_;refine ab ?_;exact hQ.1):A:=s ⟨h⟩
theorem zab {A:Prop} (s:A:=by simp only [aJ,length_cons,length_nil];omega):A:=s
theorem zac {A B:Prop} (h:B) (s:PLift B->A:=by intro hQ;refine V [0] ht ?_;refine V [0] dP ?_;refine V [0] D ?_;refine V [0] I ?_;exact hQ.1):A:=s ⟨h⟩
theorem zad {A:Prop} (s:A:=by generalize tok p 0=tk at *;refine aS (aC 0 45 (.a 45 (.q 46 .nil))) ?_;refine bF ?_;exact oF):A:=s
theorem zae {A:Prop} (s:A:=by refine V [] hc ?_;refine cq ?_;exact ⟨by first | rfl | (rw [bc];rfl),rfl⟩):A:=s
theorem zaf {A:Prop} (s:A:=by refine ab ?_;have hc:=ed s hs;rw [h0] at hc;refine V [] hc ?_;exact ao):A:=s
theorem zag {A:Prop} (s:A:=by exact ⟨rfl,rfl⟩):A:=s
theorem zah {A:Prop} (s:A:=by rw [ke];exact ⟨x,⟨_,_,Wk.aX aw,_,_,rfl,rfl,by omega,e2,e3,e1⟩,by omega⟩):A:=s
theorem zai {A:Prop} (s:A:=by obtain ⟨⟨kk,aa,vv,ss,ks⟩,l⟩:=t;obtain ⟨D,I,h3,hl⟩:=dy ht;simp only at D I h3;subst D I h3;obtain ⟨x,rfl,hx⟩:=vZ hl;simp only [E.ok,au] at ho;rw [E.tree,wt] at hb;simp only [dJ,lim] at hb;have hc:=C x ho.2 hx (by unfold lim;omega);have hle:=(E.len a ho.2).2;have hr:(bb [x])[0]?=some (cT x):=cJ rfl;rw [E.full];generalize a.full=y at *;simp only [cT,T.n,T.kids] at |-;refine aj func255 ntmps255 ?_;refine aS (aC 0 8 (.a 8 (aC 9 3 .nil))) ?_;refine aq ?_;refine ax [] hc ?_;exact av):A:=s
theorem zaj {A B:Prop} (h:B) (s:PLift B->A:=by intro hQ;refine cm ?_;refine ab ?_;exact hQ.1):A:=s ⟨h⟩
theorem zak {A:Prop} (s:A:=by obtain ⟨⟨kk,aa,vv,ss,ks⟩,l⟩:=t;obtain ⟨D,I,h3,hl⟩:=dy ht;simp only at D I h3;subst D I h3;obtain ⟨x0,rfl,kc⟩:=vZ hl;simp only [S.ok] at ho;rw [S.tree,wt] at hb;simp only [dJ,lim] at hb;have mn:=qc b (a:=a) ho (by unfold lim;omega) x0 kc;have sc:=jr b a ho;have vb:(bb [x0])[0]?=some (cT x0):=cJ rfl;rw [S.txt];generalize a.out b=y0 at *;simp only [cT,T.n,T.kids];refine aj func194 ntmps194 ?_;refine V [] mn ?_;exact ao):A:=s
theorem zal {A:Prop} (s:A:=by simp only [List.map_cons,map_nil,getD_cons_zero,getD_cons_succ,aJ,length_cons,length_nil] at hlen |-;have pA:=et b (by rw [ha];simp) X;generalize tx a=x at *;generalize iT tx inl d b=y at *;clear et lp ih;generalize cj [a,b]=rows at *;refine fD func208 ntmps208 ?_;refine zaa ?_;refine aS (.q 0 (aC 4 8 (.a 1 (.q 2 (.q 3 (.a 12 (.q 13 (.q 14 .nil)))))))) ?_;refine aq ?_;refine nW [] h0 ?_;refine aq ?_;refine ax [] pA ?_;exact av):A:=s
theorem zam {A:Prop} (s:A:=by refine ab ?_;exact ⟨_,_,Wk.aX aw,nr.next ⟨c,p,_,_,_,_,ns,rfl,rfl,ic,HG,hw,dQ,hi⟩⟩):A:=s
theorem zan {A B:Prop} (h:B) (s:PLift B->A:=by intro hQ;refine aq ?_;refine OQ rfl (YG.gP 7 rfl rfl rfl iF hi) ?_;refine kv ?_;refine aq ?_;exact hQ.1):A:=s ⟨h⟩
theorem zao {A:Prop} (s:A:=by obtain ⟨m5,m6,fin⟩:=fin _ _ e;refine aj func160 ntmps160 ?_;refine V [0] m1 ?_;refine V [0] m2 ?_;refine V [0] m3 ?_;refine aS (aC 0 24 .nil) ?_;refine bF ?_;refine V [0] m4 ?_;refine V [0] (jh p2.next 7 p2.next.place) ?_;refine V [0] m5 ?_;refine GL.qe 2 rfl rfl rfl rfl rfl rfl rfl rfl ay tL ?_;intro a c;refine fy ?_;refine ab ?_;refine V [0] m6 ?_;refine mh ?_;exact fin _ _ _ Oe):A:=s
theorem zap {A:Prop} (s:A:=by rw [S.tk] at ht;obtain ⟨t,r,rfl,D,_⟩:=map_cons ht;exact ⟨t,r,rfl,fun rest=>by rw [sG D];decide⟩):A:=s
theorem zaq {A B:Prop} (h:B) (s:PLift B->A:=by intro hQ;refine V [0] (cO p 0 hp aE) ?_;refine V [0] (cw p.next [40] dr aE) ?_;refine V [0] (xG (d+1) _ e p1 xw X he) ?_;refine V [0] (cw p1 [41] jY aE) ?_;refine aS (aC 0 4 (.a 4 (.a 5 (.q 6 .nil)))) ?_;refine aq ?_;exact hQ.1):A:=s ⟨h⟩
theorem zar {A:Prop} (s:A:=by rename_i x hx;exact ⟨fun t r h=>(by cases h),fun h h0=>I (by simp only [oC,length_cons] at h |-;omega) (hx.trans h0)⟩):A:=s
theorem zas {A:Prop} (s:A:=by refine aj func78 ntmps78 ?_;refine V [0] D ?_;refine V [0] h3 ?_;exact ao):A:=s
theorem zat {A:Prop} (s:A:=by have I:=dB code 8 c1 hl i1;have r2:=cQ code c1 (n:=8) X;generalize aW code 8 c1=a at *;obtain ⟨j,c2⟩:=a;simp only at I r2 |-;obtain ⟨m,rfl⟩:∃ m:Nat,j=(m:Int):=⟨j.toNat,by omega⟩;have hr:=qR (l:=yr) (m:=m) (by show m < 8;omega);refine aj func247 ntmps247 ?_;refine V [0] D ?_;refine zaj ?_;refine V [0] I ?_;exact ao):A:=s
theorem zau {A:Prop} (s:A:=by exact ⟨_,_,CV,⟨B9,rfl,hq⟩,.pass (x:=.inLoop c) rfl (fun _ _=>.inl (by simp)) xk⟩):A:=s
theorem zav {A:Prop} (s:A:=by exact ⟨fun t r h=>(by cases h;simp only [length_cons];omega),fun _ h=>(by cases h)⟩):A:=s
theorem zaw {A:Prop} (s:A:=by obtain ⟨r,j0,dT⟩:=List.mem_flatten.1 (bM h7);exact (h4 r j0).2 g dT):A:=s
theorem zax {A B:Prop} (h:B) (s:PLift B->A:=by intro hQ;refine ab ?_;refine aS (aC 0 7 (.a 7 (aC 8 4 (.q 13 (.q 16 (.a 12 (.q 14 (.q 15 (.a 17 (.q 18 (.a 19 (.q 20 .nil)))))))))))) ?_;exact hQ.1):A:=s ⟨h⟩
theorem zay {A:Prop} (s:A:=by rename_i x hm;exact ⟨fun t r h=>(by cases h),fun _ h=>pL hm (by cases h;rfl)⟩):A:=s
theorem zaz {A:Prop} (s:A:=by exact ⟨fun t r h=>(by cases h;omega),fun _ h=>(by cases h)⟩):A:=s
theorem zaA {A B:Prop} (h:B) (s:PLift B->A:=by intro hQ;refine zaj ?_;refine V [0] hw ?_;exact hQ.1):A:=s ⟨h⟩
theorem zaB {A B:Prop} (h:B) (s:PLift B->A:=by intro hQ;refine V [] hB ?_;refine V [] hC ?_;refine V [] hL ?_;refine V [] hX ?_;refine V [] hP ?_;exact hQ.1):A:=s ⟨h⟩
theorem zaC {A:Prop} (s:A:=by refine aS (aC 0 7 (.a 7 (.a 8 (.a 9 (.q 10 .nil))))) ?_;refine aq ?_;refine ax [0] xu ?_;refine dA ?_;refine aq ?_;refine ax [] hY ?_;exact av):A:=s
theorem zaD {A:Prop} (s:A:=by have h0:=lp 0 a (by rw [ha];rfl);rw [ha] at hlen |-;rw [ha] at h0;simp only [List.map_cons,map_nil,getD_cons_zero,aJ,length_cons,length_nil] at hlen |-;generalize tx a=x at *;generalize cj [a]=rows at *;refine fD func208 ntmps208 ?_;refine zaa ?_;refine wP [] h0 ?_;exact av):A:=s
theorem zaE {A B:Prop} (h:B) (s:PLift B->A:=by intro hQ;rw [rs,ad ak];simp only;rw [ad (by rw [hv];decide),ah (.inl hv),tail_cons,k2];simp only;exact hQ.1):A:=s ⟨h⟩
theorem zaF {A:Prop} (s:A:=by refine GL.qe 2 rfl rfl rfl rfl rfl rfl rfl rfl ay tL ?_;intro a c;refine fy ?_;rw [pD,kO];refine ab ?_;refine zaj ?_;refine V [0] (eO p2 [59] (hx { st with globals:=st.globals++[s] } { h with aG:=a,cG:=c }) dR) ?_;refine gM ?_;exact ⟨rfl,{ h with aG:=a,cG:=c },rfl⟩):A:=s
theorem zaG {A:Prop} (s:A:=by simp only [dJ,aJ,length_cons,length_nil];omega):A:=s
theorem zaH {A:Prop} (s:A:=by simp only [S.ok,au] at ho;simp only [S.tree,aQ,aB,wt,dJ,Nat.add_mul] at hs hd |-;have hc:=E.len c ho.1;have hz:=iQ c.tree;have D:=lD b ak ho.2 d [123,10] ak;have I:1 * (2 * B)<=aQ c.tree * (2 * B):=la _ hz;rw [en];simp only [aJ,length_cons,length_nil,fB] at D |-;omega):A:=s
theorem zaI {A:Prop} (s:A:=by unfold dD at lU gX;generalize S.cC (E.out b) [123,32] p++[125]=y1 at *;simp only [cT,T.n,T.kids];refine aj func194 ntmps194 ?_;refine aS (aC 0 5 (aC 8 5 (.a 5 (.q 6 (.q 7 (.a 13 (.q 14 (.q 15 .nil)))))))) ?_;refine aq ?_;refine ax [] mn ?_;refine ax [] lU ?_;exact av):A:=s
theorem zaJ {A:Prop} (s:A:=by unfold pM at lU gX;generalize (eu d [123,10] p++cr d)++[125]=y1 at *;simp only [cT,T.n,T.kids];refine aj func153 ntmps153 ?_;refine aS (aC 0 4 (aC 7 5 (.a 4 (.q 5 (.q 6 (.a 12 (.q 13 (.q 14 .nil)))))))) ?_;refine aq ?_;refine ax [] mn ?_;refine ax [] lU ?_;exact av):A:=s
theorem zaK {A:Prop} (s:A:=by exact ⟨_,fT,rfl,rfl⟩):A:=s
theorem zaL {A:Prop} (s:A:=by exact ⟨_,_,rfl⟩):A:=s
theorem zaN {A B:Prop} (h:B) (s:PLift B->A:=by intro hQ;refine dA ?_;refine aq ?_;exact hQ.1):A:=s ⟨h⟩
theorem zaO {A:Prop} (s:A:=by refine GL.wk (Wk.kG (t:=108) rfl rfl rfl rfl) ?_;refine fy ?_;refine V [] hY ?_;exact ao):A:=s
theorem zaP {A:Prop} (s:A:=by generalize aV (fun s=>(g1 s).length) p.globals=v1 at *;generalize aV (fun a=>(a1 a).length) p.arrays=v2 at *;omega):A:=s
theorem zaQ {A:Prop} (s:A:=by rw [he] at h;cases h):A:=s
theorem zaR {A B:Prop} (h:B) (s:PLift B->A:=by intro hQ;unfold nz cx;simp only [cons_append,nil_append];refine ab ?_;exact hQ.1):A:=s ⟨h⟩
theorem zaS {A:Prop} (s:A:=by rw [hb] at h;cases h):A:=s
theorem zaT {A B:Prop} (h:B) (s:PLift B->A:=by intro hQ;refine ab ?_;refine aS (aC 0 4 (.a 4 (.q 5 (.q 6 (.a 7 .nil))))) ?_;refine aq ?_;refine lx [0] g3 ?_;simp only [fk];refine zan ?_;exact hQ.1):A:=s ⟨h⟩
theorem zaU {A B:Prop} (h:B) (s:PLift B->A:=by intro hQ;refine zac ?_;refine V [0] h3 ?_;refine V [0] h4 ?_;exact hQ.1):A:=s ⟨h⟩
theorem zaV {A:Prop} (s:A:=by exact ⟨fun t r h=>(by cases h),fun _ h=>(by cases h)⟩):A:=s
theorem zaW {A:Prop} (s:A:=by obtain ⟨g,rfl,lz,fH⟩:=oU hg;rw [iS,fG,ah hp.code,ad sf,ad pC,ad xz,ad kT,D g fH];simp only;rw [ad kR]):A:=s
theorem zaX {A:Prop} (s:A:=by simp only [Value.ownBlock,Option.some.injEq] at bA;exact .inr (by omega)):A:=s
theorem zaY {A:Prop} (s:A:=by rw [ah rfl];have I:=ve c1 i1;have b2:=lP code d c1;generalize gn code d c1=a at *;obtain ⟨s,c2⟩:=a;simp only at I b2 |-;refine aj func247 ntmps247 ?_;refine V [0] D ?_;refine V [0] I ?_;exact ao):A:=s
theorem zaZ {A:Prop} (s:A:=by rw [show (st.fns.map qf).length+[qf (s,acc)].length=(st.fns++[(s,acc)]).length by simp,<-wA qf st.fns (s,acc)];refine bF ?_;refine gM ?_;exact ⟨rfl,{ h with aT:=a3,cT:=c3,aF:=a4,cF:=c4 },rfl⟩):A:=s
theorem za0 {A:Prop} (s:A:=by refine aS (aC 0 33 (.a 33 (.q 34 (.q 35 .nil)))) ?_;refine aq ?_;exact bo ⟨_,_,Wk.aX aw,rfl,rfl⟩):A:=s
theorem za1 {A:Prop} (s:A:=by exact ⟨_,_,Wk.aX aw,rfl,rfl,fun j x y h=>by omega⟩):A:=s
theorem za2 {A:Prop} (s:A:=by exact .inr ⟨x,rfl,I.tr (y:=.error x) k3⟩):A:=s
theorem za3 {A:Prop} (s:A:=by refine ⟨fun hb=>(by simp at hb),fun _=>?_⟩;obtain ⟨pos,k1⟩:=hi.2 hfa;refine ⟨pos,r7 fun f=>?_⟩;rw [rs,ad ak];simp only;rw [ad (by rw [hv];decide),ah (.inl hv),tail_cons,k1]):A:=s
theorem za4 {A B:Prop} (h:B) (s:PLift B->A:=by intro hQ;refine ab ?_;refine V [] hI ?_;refine V [] hG ?_;exact hQ.1):A:=s ⟨h⟩
theorem za5 {A B:Prop} (h:B) (s:PLift B->A:=by intro hQ;refine V [0] hex ?_;refine rM ?_;refine ab ?_;refine zaj ?_;refine V [0] oO ?_;refine V [0] et ?_;exact hQ.1):A:=s ⟨h⟩
theorem za6 {A B:Prop} (h:B) (s:PLift B->A:=by intro hQ;refine ab ?_;refine aS (aC 0 6 (.q 7 (.q 10 (.a 6 (.q 8 (.q 9 (.a 11 (.a 12 (.q 13 .nil))))))))) ?_;refine aq ?_;refine du [] iV ?_;refine du [0] (cO p 0 hp aE) ?_;refine du [] (qK (levels.getD k []) (p.sign 0) (B6 k hk)) ?_;exact hQ.1):A:=s ⟨h⟩
theorem za7 {A:Prop} (s:A:=by refine ⟨ts++us,by simp [D,h3],?_⟩;rw [fF] at h4 |-;rw [aJ] at h4 |-;rw [<-iD];exact I.app h4):A:=s
theorem za8 {A:Prop} (s:A:=by refine V [0] (cw p2 [59] dR aE) ?_;refine zaj ?_;refine V [] (gA 12 at_ [] [e] _ oh) ?_;exact eJ):A:=s
theorem za9 {A B:Prop} (h:B) (s:PLift B->A:=by intro hQ;rw [rd.eq_def];simp only;rw [ad ak,ad ak,ad ak,sB I hl];simp only;exact hQ.1):A:=s ⟨h⟩
theorem zba {A:Prop} (s:A:=by rw [hb] at hh;refine ab ?_;refine V [] hh ?_;exact ⟨rfl,rfl,_,_,Wk.aX aw,rfl,rfl,by rw [eK,hx,List.any_append,hf];simp only [Option.toList,List.any_cons,List.any_nil,hb];rfl⟩):A:=s
theorem zbb {A:Prop} (s:A:=by refine V [0] hex ?_;refine zaj ?_;refine V [0] oO ?_;refine zaj ?_;refine V [] hY ?_;exact ao):A:=s
theorem zbc {A:Prop} (s:A:=by obtain ⟨j,hj⟩:=List.mem_iff_getElem?.1 LC;refine ⟨(hr j r hj).1,fun g hg=>?_⟩;obtain ⟨q,hq⟩:=List.mem_iff_getElem?.1 hg;exact (hI.fz _ _ _ ((hr j r hj).2 q g hq)).1):A:=s
theorem zbd {A:Prop} (s:A:=by exact .inr rfl):A:=s
theorem zbe {A:Prop} (s:A:=by refine aj func308 ntmps308 ?_;refine V [0] we ?_;refine aS (aC 0 17 .nil) ?_;refine bF ?_;refine V [0] (iX p1 lY) ?_;refine V [0] (jh p1 7 p1.place) ?_;refine qY ?_;exact zaK):A:=s
theorem zbf {A:Prop} (s:A:=by obtain ⟨g,rfl,hg⟩:=up hg;rw [mS,dP];rw [ad HR,ad EJ,ad HP,ad kT,D];simp only;rw [ad kR]):A:=s
theorem zbg {A:Prop} (s:A:=by have D:=(dH.at_ h.fns i f _ hi.1 ht).2;exact ⟨D.name,D.params,(hf.at_ i _ b ht hi.2).1⟩):A:=s
theorem zbh {A B:Prop} (h:B) (s:PLift B->A:=by intro hQ;rw [rs,ad ak];simp only;rw [ad (cE _ ai),ad (fun h=>h.elim (cE _ ai) (cE _ ai)),ad (cE _ ai)];simp only [simple];exact hQ.1):A:=s ⟨h⟩
theorem zbi {A:Prop} (s:A:=by exact this.trans (bS (this.ok hp) _)):A:=s
theorem zbj {A:Prop} (s:A:=by refine V [0] he ?_;refine gL ?_;refine ab ?_;exact ⟨(g,acc++[a],p2),⟨_,_,Wk.aX aw,_,_,rfl,rfl,by simp [hn],by rw [vo,bn],by show n+1+g<=f+1;omega,dR,h⟩,by simp⟩):A:=s
theorem zbk {A B:Prop} (h:B) (s:PLift B->A:=by intro hQ;refine dF ?_;refine ab ?_;exact hQ.1):A:=s ⟨h⟩
theorem zbl {A:Prop} (s:A:=by obtain ⟨D,_⟩:=dy ht;simp only [T.n,D,mY];rfl):A:=s
theorem zbm {A:Prop} (s:A:=by refine aS (aC 0 12 (.a 12 (aC 13 3 .nil))) ?_;refine aq ?_;refine ax [] c1 ?_;exact av):A:=s
theorem zbn {A B:Prop} (h:B) (s:PLift B->A:=by intro hQ;refine ab ?_;refine V [] he ?_;exact hQ.1):A:=s ⟨h⟩
theorem zbo {A:Prop} (s:A:=by obtain ⟨f0,h0⟩:=h;obtain ⟨cI,D⟩:=I;refine ⟨f0+cI+1,fun f hf=>?_⟩;obtain ⟨f,rfl⟩:∃ g,f=g+1:=⟨f - 1,by omega⟩;exact hs f (h0 f ak) (D f ak)):A:=s
theorem zbp {A B:Prop} (h:B) (s:PLift B->A:=by intro hQ;refine aS (aC 0 3 (.a 3 (.a 4 (.a 5 (.q 6 (.a 7 .nil)))))) ?_;refine aq ?_;exact hQ.1):A:=s ⟨h⟩
theorem zbq {A B:Prop} (h:B) (s:PLift B->A:=by intro hQ;rw [iS,fG,ah hp.code,ad sf,ah pC,D g fH];simp only;rw [h4 g lz];simp only;exact hQ.1):A:=s ⟨h⟩
theorem zbr {A B:Prop} (h:B) (s:PLift B->A:=by intro hQ;refine ab ?_;refine V [0] hi ?_;exact hQ.1):A:=s ⟨h⟩
theorem zbs {A:Prop} (s:A:=by refine ab ?_;have hc:=fb (.mk ⟨5,a,0,s,ks⟩ l) 1 hl;refine V [] hc ?_;exact ao):A:=s
theorem zbt {A:Prop} (s:A:=by rw [hxy] at hs;refine ab ?_;refine kp [] hs ?_;refine ab ?_;exact ⟨rfl,rfl,_,_,(Wk.cut (n:=0) (aD _) rfl).trans (Wk.aX aw),rfl,rfl,ml lB pG ej hxy⟩):A:=s
theorem zbu {A:Prop} (s:A:=by exact this.trans (bq (this.ok c7) ai)):A:=s
theorem zbv {A:Prop} (s:A:=by simp only [S.ok,au] at h;have:=hx c h.1;have:=S.lens x hx b h.2 [123,32];rw [S.txt,S.tree,wt];simp only [dJ,wt,aJ,length_cons,length_nil] at *;omega):A:=s
theorem zbw {A B:Prop} (h:B) (s:PLift B->A:=by intro hQ;refine V [0] I ?_;refine zaA ?_;refine za5 ?_;refine gL ?_;refine ab ?_;exact hQ.1):A:=s ⟨h⟩
theorem zbx {A:Prop} (s:A:=by simp only [S.ok,au] at h;have I:=E.fO c h.1;have h3:=jU c;have h4:=S.pk b h.2;rw [S.tree,cX,bX,bX,bX,I,h4];simp [cd,own,T.n,T.kids,bB];exact h3):A:=s
theorem zby {A:Prop} (s:A:=by obtain ⟨K',bT,bE,u0⟩:=h B K β w l hm hI hF;exact k B K' bT w l hm bE u0):A:=s
theorem zbz {A:Prop} (s:A:=by exact hn.tr (y:=.error x) h4):A:=s
theorem zbA {A:Prop} (s:A:=by refine .sl g 0 _ k rows (fun j r hr=>⟨(o4 r (bM hr)).1,fun q g' jX=>?_⟩) s9;rw [eo];exact AH _ g o1 (by rw [e5];rfl) _ g' (tD o4 hr jX)):A:=s
theorem zbB {A:Prop} (s:A:=by rw [hg] at dE;refine aj func181 ntmps181 ?_;refine V [] mP ?_;refine V [] iy ?_;refine V [] oA ?_;refine V [] dE ?_;refine kZ ?_;exact zag):A:=s
theorem zbC {A:Prop} (s:A:=by rw [en,S.txt,S.txt];simp only [jy];omega):A:=s
theorem zbD {A:Prop} (s:A:=by exact ⟨rfl,rfl,_,_,Wk.aX aw,rfl,rfl⟩):A:=s
theorem zbE {A:Prop} (s:A:=by exact ⟨1,⟨_,_,Wk.aX aw,rfl,rfl,by omega,ra 1 rfl ht⟩,by omega⟩):A:=s
theorem zbF {A:Prop} (s:A:=by unfold iW;rw [ad (by rw [Fa hp k1 ai];decide),ah (xF hp k1),vk p1 k2 D,rN p2 k3,h4];simp only;rw [ah h5.1.code,h6,o7 p1,(pd k2).2]):A:=s
theorem zbG {A:Prop} (s:A:=by refine aq ?_;exact av):A:=s
theorem zbH {A:Prop} (s:A:=by refine bF ?_;exact ⟨rfl,rfl,_,_,Wk.aX aw,rfl,rfl,ml lB pG ej hxy⟩):A:=s
theorem zbI {A:Prop} (s:A:=by unfold nz cx;simp only;rw [<-e1,e2];rfl):A:=s
theorem zbJ {A:Prop} (s:A:=by rw [S.tk] at ht;obtain ⟨t,r,rfl,D,_⟩:=map_cons ht;obtain ⟨D,_⟩:=pd D;exact ⟨t,r,rfl,fun rest=>⟨iP D ai,iP D ai⟩⟩):A:=s
theorem zbK {A:Prop} (s:A:=by obtain ⟨f0,h0⟩:=h;refine ⟨f0+1,fun f hf=>?_⟩;obtain ⟨f,rfl⟩:∃ g,f=g+1:=⟨f - 1,by omega⟩;exact hs f (h0 f ak)):A:=s
theorem zbL {A:Prop} (s:A:=by obtain ⟨h0,xs,D,I,h3,h4,h5⟩:=h;refine ⟨h0,xs,D,I,⟨h3.1,fun i v g h6 h7=>(h3.2 i v g h6 h7).pc ?_⟩,h4,h5⟩;exact zaw):A:=s
theorem zbM {A:Prop} (s:A:=by simp only;obtain ⟨g,rfl⟩:∃ g',g=g'+1:=⟨g - 1,by omega⟩;rw [pK,ad (by rw [lu (bV.err k2)];decide),gC (bV.err k2) ai]):A:=s
theorem zbN {A:Prop} (s:A:=by exact ⟨by simp;omega,by simp;omega,by simp;omega,by simp;omega⟩):A:=s
theorem zbO {A:Prop} (s:A:=by exact ⟨_,_,Wk.aX aw,_,rfl,rfl,rfl⟩):A:=s
theorem zbP {A B:Prop} (h:B) (s:PLift B->A:=by intro hQ;refine ab ?_;refine V [0] (cO p 0 hp aE) ?_;exact hQ.1):A:=s ⟨h⟩
theorem zbQ {A:Prop} (s:A:=by refine ab ?_;refine V [] hc ?_;exact ⟨rfl,rfl,_,_,(Wk.cut (n:=0) (fU rfl) rfl).trans (Wk.aX aw),_,rfl,rfl,by rw [kB,hj]⟩):A:=s
theorem zbR {A:Prop} (s:A:=by rw [h];rcases hs with rfl | rfl | rfl | rfl | rfl | rfl <;> decide):A:=s
theorem zbS {A:Prop} (s:A:=by simp only [S.ok,au] at h;have I:=E.fO a h.2;have h3:=jU a;rw [S.tree,cX,bX,bX,I];simp [cd,own,T.n,T.kids,h.1,bB];exact h3):A:=s
theorem zbT {A:Prop} (s:A:=by refine V [] h ?_;exact ao):A:=s
theorem zbU {A:Prop} (s:A:=by obtain ⟨xs,D,I,h3,h4,h5⟩:=h;refine ⟨xs,D,I,⟨h3.1,fun i v g h6 h7=>(h3.2 i v g h6 h7).pc ?_⟩,h4,h5⟩;exact zaw):A:=s
theorem zbV {A:Prop} (s:A:=by simp only [S.ok,au] at h;have:=vW c h.1;have:=S.BQ b d h.2 [123,10] [123,32] ai;rw [en,S.txt];simp only [jy,rv];omega):A:=s
theorem zbW {A:Prop} (s:A:=by rw [kQ] at ej;rw [nC hl ej];exact av):A:=s
theorem zbX {A:Prop} (s:A:=by obtain ⟨g,rfl,hg⟩:=mg hg;rw [iE,fG,ah hp.code,ad uc,ad cY,ad bA,ah k2.1.code,ad u4,ah pC,k3 g ak];simp only [ht]):A:=s
theorem zbY {A:Prop} (s:A:=by simp only [S.ok,au] at h;have hb:=uM b h.2 d;rw [S.tree,eb,List.map_cons,dK c h.1,fY,fY,fY,hb,S.txt];simp [kX,dD]):A:=s
theorem zbZ {A:Prop} (s:A:=by simp only [S.ok,au] at h;have hb:=sR b h.2 d;rw [S.tree,eb,List.map_cons,jo c h.1,fY,fY,fY,hb,S.txt];simp [kX,dD]):A:=s
theorem zb0 {A:Prop} (s:A:=by simp only [S.ok] at h;have I:=E.fO a h;have h3:=jU a;rw [S.tree,cX,bX,bX,I];simp [cd,own,T.n,T.kids,bB];exact h3):A:=s
theorem zb2 {A:Prop} (s:A:=by refine GL.wk (Wk.yA (i:=2) (o:=5) rfl rfl rfl rfl hn) ?_;refine fy ?_;refine V [0] (cw p [125] hp aE) ?_;exact eJ):A:=s
theorem zb3 {A:Prop} (s:A:=by exact this.trans (D _ _ _ _ (this.ok hp) h)):A:=s
theorem zb4 {A B:Prop} (h:B) (s:PLift B->A:=by intro hQ;refine zaj ?_;refine V [0] ze ?_;refine aS (aC 0 6 (.a 6 (.a 7 (.a 8 (.q 9 (.q 10 (.a 11 .nil))))))) ?_;refine aq ?_;refine ax [0] et ?_;refine zaN ?_;exact hQ.1):A:=s ⟨h⟩
theorem zb5 {A:Prop} (s:A:=by refine V [] hF ?_;exact ao):A:=s
theorem zb6 {A:Prop} (s:A:=by obtain ⟨g,rfl,hg⟩:=mg hg;rw [iE,fG,ah hp.code,ad uc,ad cY,ad bA,ah k2.1.code,ah u4,k3 g ak];simp only [ht]):A:=s
theorem zb7 {A:Prop} (s:A:=by refine ⟨q',h4.tr h5,fun G=>?_⟩;obtain ⟨u,r,rfl,_,_⟩:=map_cons D;rw [length_cons,<-iD,pb hp h3,h6];simp):A:=s
theorem zb8 {A:Prop} (s:A:=by simp only [S.ok,au] at h;have hb:=w8 b h.2 d;rw [S.tree,eb,List.map_cons,dK c h.1,fY,fY,fY,hb,en];simp [kX,pM]):A:=s
theorem zb9 {A:Prop} (s:A:=by obtain ⟨s2,c4⟩:=a;simp only at e1 e2 e3 g2 b2;refine ab ?_;refine V [0] h3 ?_;refine V [0] g2 ?_;exact zah):A:=s
theorem zca {A:Prop} (s:A:=by exact h B K _ w' _ hm bE ((hF.mono (cZ.refl K) (iO (by rw [hI.out _ (aD _)];trivial))).put d (.loc _ 0 b bD))):A:=s
theorem zcb {A:Prop} (s:A:=by simpa using this):A:=s
theorem zcc {A:Prop} (s:A:=by obtain ⟨g,rfl,hg⟩:=up hg;rw [mE];simp only [dP,hp.code,td,if_true,ad AD,ad Lg,ad hu,ah hb];rw [D g ak]):A:=s
theorem zcd {A:Prop} (s:A:=by refine aj func181 ntmps181 ?_;refine V [] mP ?_;refine V [] iy ?_;refine V [] P8 ?_;refine kZ ?_;exact zag):A:=s
theorem zce {A:Prop} (s:A:=by unfold fm at h;rw [yK] at h;obtain ⟨l,hl,hc⟩:=h;exact List.mem_flatten.2 ⟨l,hl,by simpa using hc⟩):A:=s
theorem zcf {A:Prop} (s:A:=by rw [gK,qi];have:=hx.2;have:=u6.2 hc;omega):A:=s
theorem zcg {A B:Prop} (h:B) (s:PLift B->A:=by intro hQ;refine ab ?_;refine aS (aC 0 9 .nil) ?_;exact hQ.1):A:=s ⟨h⟩
theorem zch {A:Prop} (s:A:=by have dq:=cL.trans (bq (cL.ok hd) (s:=[61]) ai);obtain ⟨t,q,e⟩:=vi (dq.ok hd) (d+1);rw [e];exact zaL):A:=s
theorem zci {A B:Prop} (h:B) (s:PLift B->A:=by intro hQ;refine aS (aC 0 10 (.a 10 (.a 11 .nil))) ?_;refine bF ?_;exact hQ.1):A:=s ⟨h⟩
theorem zcj {A B:Prop} (h:B) (s:PLift B->A:=by intro hQ;rw [rs,ad ak];simp only;rw [ad (cE _ (by simp)),ad (fun h=>h.elim (cE _ (by simp)) (cE _ (by simp))),ad (cE _ (by simp))];simp only [simple];exact hQ.1):A:=s ⟨h⟩
theorem zck {A:Prop} (s:A:=by obtain ⟨g,rfl,hg⟩:=up hg;rw [mE];simp only [dP,hp.code,td,if_true,ad AD,ad Lg,ah hu];rw [D g ak]):A:=s
theorem zcl {A:Prop} (s:A:=by refine gL ?_;refine ab ?_;exact ⟨rfl,rfl,_,_,Wk.aX aw,_,_,rfl,rfl,by simp [hm],eP.symm,by omega⟩):A:=s
theorem zcm {A:Prop} (s:A:=by refine zaA ?_;refine zaj ?_;refine V [] hY ?_;exact ao):A:=s
theorem zcn {A:Prop} (s:A:=by exact ⟨K,β,fr,Γ,hI,hF,hq⟩):A:=s
theorem zco {A:Prop} (s:A:=by have:=yG p i x ({ kind:=x.kind,at_:=x.at_,n:=x.n,s:=sg,kids:=x.kids }:Nd) hx;simp only at *;omega):A:=s
theorem zcp {A B:Prop} (h:B) (s:PLift B->A:=by intro hQ;refine aS (aC 0 24 .nil) ?_;refine bF ?_;refine V [0] (iX p hp) ?_;refine V [0] (jh p 7 p.place) ?_;refine cq ?_;rw [RS.name,ah hc,ht];exact hQ.1):A:=s ⟨h⟩
theorem zcq {A:Prop} (s:A:=by obtain ⟨g,rfl,hg⟩:=mg hg;rw [iE,fG,ah hp.code,ad uc,ad (by rw [ht];exact AD),ah bA,D g ak]):A:=s
theorem zcr {A B:Prop} (h:B) (s:PLift B->A:=by intro hQ;refine ab ?_;refine cq ?_;exact hQ.1):A:=s ⟨h⟩
theorem zcs {A:Prop} (s:A:=by refine V [] hc ?_;exact ao):A:=s
theorem zct {A:Prop} (s:A:=by rename_i x hx;exact ⟨fun t r h=>(by cases h),fun h h0=>I ak (hx.trans (by cases h0;rfl))⟩):A:=s
theorem zcu {A:Prop} (s:A:=by rw [S.txt,S.tree,wt];exact zaG):A:=s
theorem zcv {A:Prop} (s:A:=by refine dF ?_;exact av):A:=s
theorem zcw {A:Prop} (s:A:=by exact ⟨rfl,rfl,_,_,(Wk.cut (n:=0) (aD _) rfl).trans (Wk.aX aw),rfl,rfl,by simpa using hf⟩):A:=s
theorem zcx {A:Prop} (s:A:=by obtain ⟨l',r'⟩:=y;rw [he] at h4;obtain ⟨rfl,h4⟩:=h4;rw [dv];exact ⟨rfl,I.tr h4⟩):A:=s
theorem zcy {A:Prop} (s:A:=by exact .inl ⟨rfl,rfl,rfl,by simp,fun k hk _=>Below.heap_alloc _ _ _ (by simpa using hk)⟩):A:=s
theorem zcz {A:Prop} (s:A:=by rw [all_eq_false];exact ⟨x,bM hx,by simp [hb]⟩):A:=s
theorem zcA {A:Prop} (s:A:=by have h3:=sw qs (p.fns.zip ls) (bH a1 (bH g1 [] p.globals) p.arrays);unfold vw at hlen;omega):A:=s
theorem zcB {A:Prop} (s:A:=by refine aq ?_;refine ax [] mn ?_;refine ax [] lU ?_;refine ab ?_;refine V [] lV ?_;exact ao):A:=s
theorem zcC {A:Prop} (s:A:=by obtain ⟨g,rfl,hg⟩:=up hg;rw [mS] at this |-;rw [qF hf.err] at this;rw [S8];exact this):A:=s
theorem zcD {A:Prop} (s:A:=by exact uh f _ _ _ _ (fun k d o e=>by cases e) h h3):A:=s
theorem zcE {A B:Prop} (h:B) (s:PLift B->A:=by intro hQ;refine GL.q (YG.TX rfl rfl) ?_;refine om ?_;refine GL.q (YG.R4 rfl rfl) ?_;refine om ?_;refine ab ?_;refine aS (aC 0 13 .nil) ?_;exact hQ.1):A:=s ⟨h⟩
theorem zcF {A:Prop} (s:A:=by have hl:=nG hF h3;simp only [tl,gv,D,I,hl,hv,Bool.and_self];exact ⟨trivial,trivial⟩):A:=s
theorem zcG {A:Prop} (s:A:=by refine kq ?_;exact zaK):A:=s
theorem zcH {A:Prop} (s:A:=by refine zbk ?_;refine CR ?_;exact BW (n:=1) rfl ik rfl (fU rfl) rfl rfl ⟨_,rfl,rfl⟩):A:=s
theorem zcI {A:Prop} (s:A:=by refine aS (aC 0 10 (.a 10 (aC 11 3 .nil))) ?_;refine aq ?_;refine ax [] sj ?_;exact av):A:=s
theorem zcJ {A:Prop} (s:A:=by rw [this];exact ⟨fun hb=>(by cases hb),fun _=>⟨_,r7 fun f=>by rw [rs,ah ak]⟩⟩):A:=s
theorem zcK {A:Prop} (s:A:=by exact ⟨by simp;omega,by simp;omega,by simp;omega,fun x hx=>by have:=d x hx;omega⟩):A:=s
theorem zcL {A B:Prop} (h:B) (s:PLift B->A:=by intro hQ;refine V [0] (cw _ [61] cL aE) ?_;refine V [0] (xG (d+1) _ e p2 dq X he) ?_;refine V [0] (cw p2 [59] dR aE) ?_;refine zaj ?_;exact hQ.1):A:=s ⟨h⟩
theorem zcM {A:Prop} (s:A:=by rw [how];refine aj func251 ntmps251 ?_;exact ao):A:=s
theorem zcN {A:Prop} (s:A:=by rw [I];simp only;rw [h3];exact zbz):A:=s
theorem zcO {A:Prop} (s:A:=by obtain ⟨g,rfl,lz,fH⟩:=oU hg;rw [iS,fG,ah hp.code,ad sf,ad pC,ad xz,ah kT,D g fH]):A:=s
theorem zcP {A:Prop} (s:A:=by refine gM ?_;exact ⟨rfl,h,rfl⟩):A:=s
theorem zcQ {A:Prop} (s:A:=by refine dF ?_;exact ⟨_,_,Wk.aX aw,q,p,_,_,_,_,ns,rfl,rfl,⟨Hg,Ha,Hf,Hn⟩,tq,wX⟩):A:=s
theorem zcR {A:Prop} (s:A:=by simp only [a1,aJ,length_cons,length_nil];omega):A:=s
theorem zcS {A:Prop} (s:A:=by simp only [stay,mem_filter] at hp |-;exact (hs p hp.1).imp (fun h=>⟨h,hp.2⟩) id):A:=s
theorem zcT {A B:Prop} (h:B) (s:PLift B->A:=by intro hQ;refine aS (.q 1 (.q 2 (.a 0 (.a 3 .nil)))) ?_;refine aq ?_;refine ax [] wx ?_;refine ax [] xn ?_;refine ab ?_;refine mG ?_;exact hQ.1):A:=s ⟨h⟩
theorem zcU {A:Prop} (s:A:=by refine aS (aC 0 6 (.a 6 (aC 7 3 .nil))) ?_;refine aq ?_;refine ax [] hj ?_;exact av):A:=s
theorem zcV {A:Prop} (s:A:=by exact ⟨rfl,rfl,_,_,(Wk.cut (n:=1) (fU rfl) rfl).trans (Wk.aX aw),_,rfl,rfl,hy⟩):A:=s
theorem zcW {A B:Prop} (h:B) (s:PLift B->A:=by intro hQ;refine fy ?_;refine ab ?_;exact hQ.1):A:=s ⟨h⟩
theorem zcX {A B:Prop} (h:B) (s:PLift B->A:=by intro hQ;refine jx cR dw ?_;refine bF ?_;exact hQ.1):A:=s ⟨h⟩
theorem zcY {A:Prop} (s:A:=by exact this.trans (I _ _ _ _ _ (this.ok hp) h)):A:=s
theorem zcZ {A:Prop} (s:A:=by simp only [S.ok,au] at h;rw [S.tree,eb,List.map_cons,dK a h.2,en,S.txt];simp [kX]):A:=s
theorem zc0 {A:Prop} (s:A:=by simp only [E.ok,au] at h;have I:=jo a h.2;rw [E.tree,eA,jz,jz,I,E.full];simp [yW]):A:=s
theorem zc1 {A:Prop} (s:A:=by have:cs=[]:=gk h.1.symm;subst this;simp at ho):A:=s
theorem zc2 {A:Prop} (s:A:=by refine V [0] dP ?_;refine V [] Gl ?_;exact ao):A:=s
theorem zc3 {A:Prop} (s:A:=by rw [ad hd];exact ⟨fun c' h=>(by rw [hc] at h;cases h;simpa using hd),aD _,D⟩):A:=s
theorem zc4 {A B:Prop} (h:B) (s:PLift B->A:=by intro hQ;refine ab ?_;refine V [] iy ?_;refine V [] dE ?_;exact hQ.1):A:=s ⟨h⟩
theorem zc5 {A B:Prop} (h:B) (s:PLift B->A:=by intro hQ;refine gg ?_;refine ab ?_;exact hQ.1):A:=s ⟨h⟩
theorem zc6 {A B:Prop} (h:B) (s:PLift B->A:=by intro hQ;refine ab ?_;refine V [] HI ?_;refine V [] zK ?_;exact hQ.1):A:=s ⟨h⟩
theorem zc7 {A:Prop} (s:A:=by rw [u7] at cp;exact ⟨rfl,cp⟩):A:=s
theorem zc8 {A:Prop} (s:A:=by simp only [S.ok,au] at h;rw [S.tree,eb,List.map_cons,dK a h.2,S.txt];simp [kX]):A:=s
theorem zc9 {A:Prop} (s:A:=by simp only [S.ok,au] at h;rw [S.tree,eb,List.map_cons,jo a h.2,S.txt];simp [kX]):A:=s
theorem zda {A:Prop} (s:A:=by refine dF ?_;exact ⟨_,_,Wk.aX aw,a,z,n,rows,acc,rfl,rfl,hn,bn,by omega,hB⟩):A:=s
theorem zdb {A:Prop} (s:A:=by obtain ⟨k1,k2⟩:=key es D;exact ⟨es++[a],k1,by rw [Hv,I,k2,aK,aK,h4]⟩):A:=s
theorem zdc {A:Prop} (s:A:=by simp only [S.ok] at h;rw [S.tree,eb,List.map_cons,dK a h,en,S.txt];simp [kX]):A:=s
theorem zde {A:Prop} (s:A:=by rw [hn] at h;cases h):A:=s
theorem zdf {A:Prop} (s:A:=by obtain ⟨D,_,_⟩:=mU h;rw [D];simp only;rw [ad (by rw [hp c rfl];decide)]):A:=s
theorem zdg {A:Prop} (s:A:=by simp only [vg,ju,aB] at *;omega):A:=s
theorem zdh {A:Prop} (s:A:=by exact ⟨l,rfl,hq⟩):A:=s
theorem zdi {A B:Prop} (h:B) (s:PLift B->A:=by intro hQ;refine ab ?_;refine V [] hs ?_;refine V [] E1 ?_;refine V [] kB ?_;refine V [2] et ?_;refine aS (aC 0 17 .nil) ?_;exact hQ.1):A:=s ⟨h⟩
theorem zdj {A B:Prop} (h:B) (s:PLift B->A:=by intro hQ;refine V [0] ht ?_;exact hQ.1):A:=s ⟨h⟩
theorem zdk {A B:Prop} (h:B) (s:PLift B->A:=by intro hQ;rw [rs,ad ak];simp only;rw [ad (iP D ai),ad (fun h=>h.elim (iP D ai) (iP D ai)),ad (iP D ai)];simp only [simple];exact hQ.1):A:=s ⟨h⟩
theorem zdl {A:Prop} (s:A:=by simp only [S.ok] at h;rw [S.tree,eb,List.map_cons,dK a h,S.txt];simp [kX]):A:=s
theorem zdm {A:Prop} (s:A:=by simp only [S.ok] at h;rw [S.tree,eb,List.map_cons,jo a h,S.txt];simp [kX]):A:=s
theorem zdn {A:Prop} (s:A:=by exact (cW hs ai).1):A:=s
theorem zdo {A:Prop} (s:A:=by simp [results,hr,wh,asAddr,AL]):A:=s
theorem zdp {A B:Prop} (h:B) (s:PLift B->A:=by intro hQ;rw [show (kE st.trees).length+[[qT t]].length=(st.trees++[t]).length by simp [mW],<-vo st.trees t];refine bF ?_;exact hQ.1):A:=s ⟨h⟩
theorem zdq {A:Prop} (s:A:=by simp only [length_cons,length_nil];omega):A:=s
theorem zdr {A:Prop} (s:A:=by obtain ⟨r,j0,dT⟩:=List.mem_flatten.1 (bM hg);exact (h4 r j0).2 g dT):A:=s
theorem zds {A:Prop} (s:A:=by refine ab ?_;exact ⟨rfl,rfl,_,_,Wk.aX aw,rfl,rfl,by rw [eP,cp];rfl⟩):A:=s
theorem zdt {A:Prop} (s:A:=by obtain ⟨g,rfl,hg⟩:=up hg;rw [mS,dP];rw [ad HR,ad EJ,ad HP,ah kT,D]):A:=s
theorem zdu {A:Prop} (s:A:=by exact ⟨by omega,by omega,by omega,fun x hx=>by have:=d x hx;omega⟩):A:=s
theorem zdv {A B:Prop} (h:B) (s:PLift B->A:=by intro hQ;simp only [cT,T.n,T.kids];exact hQ.1):A:=s ⟨h⟩
theorem zdw {A:Prop} (s:A:=by exact ⟨0,⟨_,_,Wk.aX aw,rfl,rfl,by omega,ra 0 rfl ht⟩,by omega⟩):A:=s
theorem zdx {A B:Prop} (h:B) (s:PLift B->A:=by intro hQ;rw [flatMap_cons,aJ,length_cons];exact hQ.1):A:=s ⟨h⟩
theorem zdy {A:Prop} (s:A:=by simp only;omega):A:=s
theorem zdz {A:Prop} (s:A:=by rw [Go.Xp.eg] at h;omega):A:=s
theorem zdA {A:Prop} (s:A:=by rw [I] at he;refine aj func124 ntmps124 ?_;refine V [] he ?_;exact ao):A:=s
theorem zdB {A:Prop} (s:A:=by exact dQ.nodes x (bM hx)):A:=s
theorem zdC {A:Prop} (s:A:=by exact ⟨fun t r h=>(by cases h;exact aD _),fun _ h=>(by cases h)⟩):A:=s
theorem zdD {A:Prop} (s:A:=by obtain ⟨g,rfl⟩:∃ g',g=g'+1:=⟨g - 1,by omega⟩;exact hk g ak):A:=s
theorem zdF {A B:Prop} (h:B) (s:PLift B->A:=by intro hQ;refine GL.wk (Wk.kG (t:=57) rfl rfl rfl rfl) ?_;refine fy ?_;exact hQ.1):A:=s ⟨h⟩
theorem zdG {A:Prop} (s:A:=by exact h _ _ B K' _ w' _ hm sV ((hF.mono hK kU).put (some dt) (.v _))):A:=s
theorem zdI {A B:Prop} (h:B) (s:PLift B->A:=by intro hQ;refine gL ?_;refine ab ?_;exact hQ.1):A:=s ⟨h⟩
theorem zdJ {A B:Prop} (h:B) (s:PLift B->A:=by intro hQ;refine V [0] hi ?_;refine V [0] cL ?_;exact hQ.1):A:=s ⟨h⟩
theorem zdK {A:Prop} (s:A:=by rename_i b p' he;have:=hn.trans (D _ _ _ _ (hn.ok hp) he);exact zb3):A:=s
theorem zdL {A:Prop} (s:A:=by rw [this];exact ⟨fun hb=>(by cases hb),fun _=>⟨_,Ev.PA ak⟩⟩):A:=s
theorem zdM {A:Prop} (s:A:=by obtain ⟨pos,k1⟩:=hx.2 hb;exact ⟨pos,Ev.Wz hd D hl h3 kz k1⟩):A:=s
theorem zdN {A:Prop} (s:A:=by have:=hx.2;have:=pA.2;have:=dS.2;omega):A:=s
theorem zdO {A:Prop} (s:A:=by refine aj func126 ntmps126 ?_;exact ao):A:=s
theorem zdP {A:Prop} (s:A:=by clear hu;refine ab ?_;exact ⟨rfl,rfl,_,_,Wk.aX aw,_,rfl,rfl,zd⟩):A:=s
theorem zdQ {A:Prop} (s:A:=by refine cq ?_;refine ⟨?_,rfl⟩;show GV.v (.bool (x==x))=_;rw [LL]):A:=s
theorem zdR {A:Prop} (s:A:=by obtain ⟨t,D,I,h3⟩:=dC ai hc;exact ⟨t,D,I,h3.trans hc.symm⟩):A:=s
theorem zdS {A:Prop} (s:A:=by obtain ⟨g,rfl,hg⟩:=mg hg;rw [iE,fG,ah hp.code,ah uc,D g ak,ht]):A:=s
theorem zdT {A:Prop} (s:A:=by obtain ⟨g,rfl,lz,fH⟩:=oU hg;rw [iS,fG,ah hp.code,ah sf,D g fH]):A:=s
theorem zdU {A:Prop} (s:A:=by rw [mE,ad (by rw [dE];exact hb),ah (by rw [dE];exact hc),k1 g hg]):A:=s
theorem zdV {A:Prop} (s:A:=by rw [he] at h;exact .inr ⟨x,rfl,h⟩):A:=s
theorem zdW {A:Prop} (s:A:=by obtain ⟨g,rfl,hg⟩:=up hg;rw [mS,dP];rw [ah (by rw [dE,hv]),D]):A:=s
theorem zdX {A:Prop} (s:A:=by refine za9 ?_;rw [ad (by rw [hs];decide),ah hs,tail_cons,h0 f ak]):A:=s
theorem zdY {A:Prop} (s:A:=by rw [E.txt,E.full,E.tree,wt];exact zaG):A:=s
theorem zdZ {A:Prop} (s:A:=by simp [E.tree,T.n] at h3):A:=s
theorem zd0 {A:Prop} (s:A:=by obtain ⟨j,b⟩:=gd;simp only at hv hc;simp only [gG,hv,hc];simp):A:=s
theorem zd1 {A B:Prop} (h:B) (s:PLift B->A:=by intro hQ;refine zax ?_;refine aq ?_;refine du [0] ht ?_;refine du [] tu ?_;refine du [0] ht ?_;refine du [] PN ?_;exact hQ.1):A:=s ⟨h⟩
theorem zd2 {A B:Prop} (h:B) (s:PLift B->A:=by intro hQ;simp only [oset,bN];refine aS (aC 0 7 (.a 7 (.a 8 (aC 9 3 (.a 12 .nil))))) ?_;refine aq ?_;refine zaN ?_;exact hQ.1):A:=s ⟨h⟩
theorem zd3 {A:Prop} (s:A:=by rw [en];exact leaf _ ho):A:=s
theorem zd4 {A:Prop} (s:A:=by refine aj func32 ntmps32 ?_;exact zb5):A:=s
theorem zd5 {A:Prop} (s:A:=by refine ab ?_;have hc:=fb (.mk ⟨9,a,0,s,ks⟩ l) 1 hl;exact zcs):A:=s
theorem zd6 {A:Prop} (s:A:=by exact ⟨aD _,h⟩):A:=s
theorem zd7 {A:Prop} (s:A:=by rw [gK,qi];have:=hx.2;omega):A:=s
theorem zd8 {A:Prop} (s:A:=by rcases hk with hk | hk <;> rw [hk] at h <;> simp at h <;> omega):A:=s
theorem zd9 {A:Prop} (s:A:=by refine zbk ?_;refine kZ ?_;exact zag):A:=s
theorem zea {A:Prop} (s:A:=by exact ⟨fun t r h=>(by cases h;simp),fun _ h=>(by cases h)⟩):A:=s
theorem zeb {A:Prop} (s:A:=by obtain ⟨q,l,j7,j8,j9⟩:=j5 h;exact ⟨q,l,j7 g' jX,j8,j9⟩):A:=s
theorem zec {A:Prop} (s:A:=by refine V [] hF ?_;refine V [] hB ?_;refine V [] hL ?_;exact ao):A:=s
theorem zed {A:Prop} (s:A:=by split at h <;> cases h):A:=s
theorem zee {A:Prop} (s:A:=by exact absurd h3 (by simp [one,T.n])):A:=s
theorem zef {A B:Prop} (h:B) (s:PLift B->A:=by intro hQ;rw [mS,D];simp only;rw [h4 g hg];simp only;exact hQ.1):A:=s ⟨h⟩
theorem zeg {A:Prop} (s:A:=by simp only [eH,Bool.or_eq_false_iff,beq_eq_false_iff_ne];omega):A:=s
theorem zeh {A:Prop} (s:A:=by exact (AX (bV.err I)).2.1 g _ _ _ (by unfold KF at hg;omega)):A:=s
theorem zei {A:Prop} (s:A:=by rw [rz lB pG (p:=fun x y=>x==y) hxy];refine zcg ?_;exact zbG):A:=s
theorem zej {A:Prop} (s:A:=by rw [h3.2.2] at h4;exact .inr (.inl ⟨r,x,I,h4,h3.tr h5⟩)):A:=s
theorem zek {A:Prop} (s:A:=by exact ⟨-1,rfl,fun h=>by omega⟩):A:=s
theorem zel {A:Prop} (s:A:=by have:=e1 c (by rw [he];exact hc);rw [Lz] at this;cases this):A:=s
theorem zem {A B:Prop} (h:B) (s:PLift B->A:=by intro hQ;refine ab ?_;refine V [] hp ?_;exact hQ.1):A:=s ⟨h⟩
theorem zen {A:Prop} (s:A:=by refine aq ?_;refine ax [] S4 ?_;refine ax [] yX ?_;exact av):A:=s
theorem zeo {A:Prop} (s:A:=by obtain ⟨q,c9,j7,j8⟩:=j6 h;exact ⟨q,c9,j7 g' jX,j8⟩):A:=s
theorem zep {A B:Prop} (h:B) (s:PLift B->A:=by intro hQ;refine iw ?_;refine ab ?_;exact hQ.1):A:=s ⟨h⟩
theorem zeq {A B:Prop} (h:B) (s:PLift B->A:=by intro hQ;refine aS (aC 0 33 (.a 33 (.q 34 (.q 35 .nil)))) ?_;refine aq ?_;refine du [0] (cO p1 1 lY aE) ?_;exact hQ.1):A:=s ⟨h⟩
theorem zer {A B:Prop} (h:B) (s:PLift B->A:=by intro hQ;refine aS (aC 0 8 (.a 8 (aC 9 3 .nil))) ?_;refine aq ?_;exact hQ.1):A:=s ⟨h⟩
theorem zdE {A:Prop} (s:A:=by cases t' with | zero=>rfl | succ t'=>exact ih (fun e=>h (by rw [e]))):A:=s
theorem zes {A B:Prop} (h:B) (s:PLift B->A:=by intro hQ;refine GL.qe 1 rfl rfl rfl rfl rfl rfl rfl rfl ay tL ?_;exact hQ.1):A:=s ⟨h⟩
theorem zet {A:Prop} (s:A:=by exact jv hp _ _):A:=s
theorem zeu {A:Prop} (s:A:=by rw [k1];simp only;rw [k2];exact .inl ⟨r',rfl,I.tr k3⟩):A:=s
theorem zev {A:Prop} (s:A:=by exact absurd I (Mp _ _ _ (fun k d out h=>by cases h) _ _)):A:=s
theorem zew {A:Prop} (s:A:=by refine ⟨pos,xf k3 fun f k3=>?_⟩;refine zaE ?_;rw [k3]):A:=s
theorem zex {A:Prop} (s:A:=by exact ⟨hl.1,by omega⟩):A:=s
theorem zey {A:Prop} (s:A:=by refine ab ?_;refine V [] zI ?_;refine V [] cE ?_;exact ao):A:=s
theorem zez {A:Prop} (s:A:=by rw [Go.Im.jC] at hw;omega):A:=s
theorem zeA {A:Prop} (s:A:=by exact ⟨D,fun h=>I (by simp only [oC] at h |-;omega)⟩):A:=s
theorem zeB {A:Prop} (s:A:=by rw [I];simp only;rw [h3];exact ⟨by rw [dv],hn.tr h4⟩):A:=s
theorem zeC {A:Prop} (s:A:=by have:=h.w;unfold cv wS at *;simp only [nS,aV] at *;omega):A:=s
theorem zeD {A:Prop} (s:A:=by rw [bU D] at hi;rw [bU I] at hj;exact h.dis i j b' hi hj):A:=s
theorem zeE {A:Prop} (s:A:=by exact h4 k t' a' (by simpa using ht) (by simpa using ha)):A:=s
theorem zeF {A:Prop} (s:A:=by refine aj func198 ntmps198 ?_;refine V [] h0 ?_;exact ao):A:=s
theorem zeG {A:Prop} (s:A:=by repeat (first | exact cS.n | (apply cS.w;(· decide +kernel)) | (apply cS.y;(· first | (apply YQ.t;(· exact rfl);(· exact rfl);(· (first | exact YG.gP 7 rfl rfl rfl ((dG _ _ _ _).trans iF) hi | (first | exact fi | (apply K.idx;first | exact YG.idxV rfl rfl rfl ay X | exact YG.aM 0 rfl rfl rfl az | exact YG.aM 1 rfl rfl rfl az | exact YG.aM 2 rfl rfl rfl az | exact YG.aM 3 rfl rfl rfl az | exact YG.aM 4 rfl rfl rfl az | exact YG.aM 5 rfl rfl rfl az | exact YG.aM 6 rfl rfl rfl az) | exact fj | exact YG.fg 1 rfl rfl ay ay | exact YG.mv | exact YG.ky | (apply K.bin;first | exact YG.go rfl | exact YG.ja rfl rfl X | exact YG.gZ rfl rfl | exact YG.ig rfl rfl | exact YG.mN rfl rfl | exact YG.mR rfl rfl | exact YG.cat rfl rfl X | exact YG.cat rfl rfl (by simp only [aJ,length_cons,length_nil];omega) | exact YG.addN rfl rfl X | exact YG.add rfl rfl X | exact YG.sub rfl rfl X | exact YG.mul rfl rfl X | exact YG.km rfl rfl X | exact YG.quo rfl rfl X | exact YG.rem rfl rfl X | exact YG.gi rfl rfl) | exact eN | exact eM | exact fE | exact eh | exact eE | (apply K.idx;first | exact YG.fR rfl rfl aH | exact YG.b6 rfl rfl aH rfl | exact YG.b6 rfl rfl aH X | exact YG.jd rfl rfl X) | exact YG.ext rfl rfl | exact YG.go rfl | (apply K.nR;first | exact YG.kl rfl rfl rfl X | exact YG.kj rfl rfl X | exact YG.ki rfl rfl X | exact YG.fw 1 rfl rfl rfl ay) | exact YG.ia rfl rfl aH | exact YG.idxSC rfl rfl aH rfl | exact eG | exact YG.build rfl | exact YG.neg rfl X | exact YG.hH rfl rfl | exact YG.lM rfl (by first | rfl | exact IntWalk.i64_in _ X | exact IntWalk.u8_in _ X | assumption) | exact YG.str rfl ay)))) | (apply YQ.t;(· exact rfl);(· apply o9;(· exact rfl);(· first | exact rfl | assumption));(· (first | exact YG.gP 7 rfl rfl rfl ((dG _ _ _ _).trans iF) hi | (first | exact fi | (apply K.idx;first | exact YG.idxV rfl rfl rfl ay X | exact YG.aM 0 rfl rfl rfl az | exact YG.aM 1 rfl rfl rfl az | exact YG.aM 2 rfl rfl rfl az | exact YG.aM 3 rfl rfl rfl az | exact YG.aM 4 rfl rfl rfl az | exact YG.aM 5 rfl rfl rfl az | exact YG.aM 6 rfl rfl rfl az) | exact fj | exact YG.fg 1 rfl rfl ay ay | exact YG.mv | exact YG.ky | (apply K.bin;first | exact YG.go rfl | exact YG.ja rfl rfl X | exact YG.gZ rfl rfl | exact YG.ig rfl rfl | exact YG.mN rfl rfl | exact YG.mR rfl rfl | exact YG.cat rfl rfl X | exact YG.cat rfl rfl (by simp only [aJ,length_cons,length_nil];omega) | exact YG.addN rfl rfl X | exact YG.add rfl rfl X | exact YG.sub rfl rfl X | exact YG.mul rfl rfl X | exact YG.km rfl rfl X | exact YG.quo rfl rfl X | exact YG.rem rfl rfl X | exact YG.gi rfl rfl) | exact eN | exact eM | exact fE | exact eh | exact eE | (apply K.idx;first | exact YG.fR rfl rfl aH | exact YG.b6 rfl rfl aH rfl | exact YG.b6 rfl rfl aH X | exact YG.jd rfl rfl X) | exact YG.ext rfl rfl | exact YG.go rfl | (apply K.nR;first | exact YG.kl rfl rfl rfl X | exact YG.kj rfl rfl X | exact YG.ki rfl rfl X | exact YG.fw 1 rfl rfl rfl ay) | exact YG.ia rfl rfl aH | exact YG.idxSC rfl rfl aH rfl | exact eG | exact YG.build rfl | exact YG.neg rfl X | exact YG.hH rfl rfl | exact YG.lM rfl (by first | rfl | exact IntWalk.i64_in _ X | exact IntWalk.u8_in _ X | assumption) | exact YG.str rfl ay)))) | (apply YQ.f;(· exact rfl);(· apply pX;(· exact rfl);(· first | exact rfl | assumption))))))):A:=s
theorem zeH {A:Prop} (s:A:=by repeat (first | exact cS.n | (apply cS.w;(· decide +kernel)) | (apply cS.y;(· first | (apply YQ.t;(· exact rfl);(· exact rfl);(· (first | exact YG.gP 7 rfl rfl rfl iF hi | (first | exact fi | (apply K.idx;first | exact YG.idxV rfl rfl rfl ay X | exact YG.aM 0 rfl rfl rfl az | exact YG.aM 1 rfl rfl rfl az | exact YG.aM 2 rfl rfl rfl az | exact YG.aM 3 rfl rfl rfl az | exact YG.aM 4 rfl rfl rfl az | exact YG.aM 5 rfl rfl rfl az | exact YG.aM 6 rfl rfl rfl az) | exact fj | exact YG.fg 1 rfl rfl ay ay | exact YG.mv | exact YG.ky | (apply K.bin;first | exact YG.go rfl | exact YG.ja rfl rfl X | exact YG.gZ rfl rfl | exact YG.ig rfl rfl | exact YG.mN rfl rfl | exact YG.mR rfl rfl | exact YG.cat rfl rfl X | exact YG.cat rfl rfl (by simp only [aJ,length_cons,length_nil];omega) | exact YG.addN rfl rfl X | exact YG.add rfl rfl X | exact YG.sub rfl rfl X | exact YG.mul rfl rfl X | exact YG.km rfl rfl X | exact YG.quo rfl rfl X | exact YG.rem rfl rfl X | exact YG.gi rfl rfl) | exact eN | exact eM | exact fE | exact eh | exact eE | (apply K.idx;first | exact YG.fR rfl rfl aH | exact YG.b6 rfl rfl aH rfl | exact YG.b6 rfl rfl aH X | exact YG.jd rfl rfl X) | exact YG.ext rfl rfl | exact YG.go rfl | (apply K.nR;first | exact YG.kl rfl rfl rfl X | exact YG.kj rfl rfl X | exact YG.ki rfl rfl X | exact YG.fw 1 rfl rfl rfl ay) | exact YG.ia rfl rfl aH | exact YG.idxSC rfl rfl aH rfl | exact eG | exact YG.build rfl | exact YG.neg rfl X | exact YG.hH rfl rfl | exact YG.lM rfl (by first | rfl | exact IntWalk.i64_in _ X | exact IntWalk.u8_in _ X | assumption) | exact YG.str rfl ay)))) | (apply YQ.t;(· exact rfl);(· apply o9;(· exact rfl);(· first | exact rfl | assumption));(· (first | exact YG.gP 7 rfl rfl rfl iF hi | (first | exact fi | (apply K.idx;first | exact YG.idxV rfl rfl rfl ay X | exact YG.aM 0 rfl rfl rfl az | exact YG.aM 1 rfl rfl rfl az | exact YG.aM 2 rfl rfl rfl az | exact YG.aM 3 rfl rfl rfl az | exact YG.aM 4 rfl rfl rfl az | exact YG.aM 5 rfl rfl rfl az | exact YG.aM 6 rfl rfl rfl az) | exact fj | exact YG.fg 1 rfl rfl ay ay | exact YG.mv | exact YG.ky | (apply K.bin;first | exact YG.go rfl | exact YG.ja rfl rfl X | exact YG.gZ rfl rfl | exact YG.ig rfl rfl | exact YG.mN rfl rfl | exact YG.mR rfl rfl | exact YG.cat rfl rfl X | exact YG.cat rfl rfl (by simp only [aJ,length_cons,length_nil];omega) | exact YG.addN rfl rfl X | exact YG.add rfl rfl X | exact YG.sub rfl rfl X | exact YG.mul rfl rfl X | exact YG.km rfl rfl X | exact YG.quo rfl rfl X | exact YG.rem rfl rfl X | exact YG.gi rfl rfl) | exact eN | exact eM | exact fE | exact eh | exact eE | (apply K.idx;first | exact YG.fR rfl rfl aH | exact YG.b6 rfl rfl aH rfl | exact YG.b6 rfl rfl aH X | exact YG.jd rfl rfl X) | exact YG.ext rfl rfl | exact YG.go rfl | (apply K.nR;first | exact YG.kl rfl rfl rfl X | exact YG.kj rfl rfl X | exact YG.ki rfl rfl X | exact YG.fw 1 rfl rfl rfl ay) | exact YG.ia rfl rfl aH | exact YG.idxSC rfl rfl aH rfl | exact eG | exact YG.build rfl | exact YG.neg rfl X | exact YG.hH rfl rfl | exact YG.lM rfl (by first | rfl | exact IntWalk.i64_in _ X | exact IntWalk.u8_in _ X | assumption) | exact YG.str rfl ay)))) | (apply YQ.f;(· exact rfl);(· apply pX;(· exact rfl);(· first | exact rfl | assumption))))))):A:=s
theorem zeI {A:Prop} (s:A:=by repeat (first | exact cS.n | (apply cS.w;(· decide +kernel)) | (apply cS.y;(· first | (apply YQ.t;(· exact rfl);(· exact rfl);(· (first | exact fi | (apply K.idx;first | exact YG.idxV rfl rfl rfl ay X | exact YG.aM 0 rfl rfl rfl az | exact YG.aM 1 rfl rfl rfl az | exact YG.aM 2 rfl rfl rfl az | exact YG.aM 3 rfl rfl rfl az | exact YG.aM 4 rfl rfl rfl az | exact YG.aM 5 rfl rfl rfl az | exact YG.aM 6 rfl rfl rfl az) | exact fj | exact YG.fg 1 rfl rfl ay ay | exact YG.mv | exact YG.ky | (apply K.bin;first | exact YG.go rfl | exact YG.ja rfl rfl X | exact YG.gZ rfl rfl | exact YG.ig rfl rfl | exact YG.mN rfl rfl | exact YG.mR rfl rfl | exact YG.cat rfl rfl X | exact YG.cat rfl rfl (by simp only [aJ,length_cons,length_nil];omega) | exact YG.addN rfl rfl X | exact YG.add rfl rfl X | exact YG.sub rfl rfl X | exact YG.mul rfl rfl X | exact YG.km rfl rfl X | exact YG.quo rfl rfl X | exact YG.rem rfl rfl X | exact YG.gi rfl rfl) | exact eN | exact eM | exact fE | exact eh | exact eE | (apply K.idx;first | exact YG.fR rfl rfl aH | exact YG.b6 rfl rfl aH rfl | exact YG.b6 rfl rfl aH X | exact YG.jd rfl rfl X) | exact YG.ext rfl rfl | exact YG.go rfl | (apply K.nR;first | exact YG.kl rfl rfl rfl X | exact YG.kj rfl rfl X | exact YG.ki rfl rfl X | exact YG.fw 1 rfl rfl rfl ay) | exact YG.ia rfl rfl aH | exact YG.idxSC rfl rfl aH rfl | exact eG | exact YG.build rfl | exact YG.neg rfl X | exact YG.hH rfl rfl | exact YG.lM rfl (by first | rfl | exact IntWalk.i64_in _ X | exact IntWalk.u8_in _ X | assumption) | exact YG.str rfl ay))) | (apply YQ.t;(· exact rfl);(· apply o9;(· exact rfl);(· first | exact rfl | assumption));(· (first | exact fi | (apply K.idx;first | exact YG.idxV rfl rfl rfl ay X | exact YG.aM 0 rfl rfl rfl az | exact YG.aM 1 rfl rfl rfl az | exact YG.aM 2 rfl rfl rfl az | exact YG.aM 3 rfl rfl rfl az | exact YG.aM 4 rfl rfl rfl az | exact YG.aM 5 rfl rfl rfl az | exact YG.aM 6 rfl rfl rfl az) | exact fj | exact YG.fg 1 rfl rfl ay ay | exact YG.mv | exact YG.ky | (apply K.bin;first | exact YG.go rfl | exact YG.ja rfl rfl X | exact YG.gZ rfl rfl | exact YG.ig rfl rfl | exact YG.mN rfl rfl | exact YG.mR rfl rfl | exact YG.cat rfl rfl X | exact YG.cat rfl rfl (by simp only [aJ,length_cons,length_nil];omega) | exact YG.addN rfl rfl X | exact YG.add rfl rfl X | exact YG.sub rfl rfl X | exact YG.mul rfl rfl X | exact YG.km rfl rfl X | exact YG.quo rfl rfl X | exact YG.rem rfl rfl X | exact YG.gi rfl rfl) | exact eN | exact eM | exact fE | exact eh | exact eE | (apply K.idx;first | exact YG.fR rfl rfl aH | exact YG.b6 rfl rfl aH rfl | exact YG.b6 rfl rfl aH X | exact YG.jd rfl rfl X) | exact YG.ext rfl rfl | exact YG.go rfl | (apply K.nR;first | exact YG.kl rfl rfl rfl X | exact YG.kj rfl rfl X | exact YG.ki rfl rfl X | exact YG.fw 1 rfl rfl rfl ay) | exact YG.ia rfl rfl aH | exact YG.idxSC rfl rfl aH rfl | exact eG | exact YG.build rfl | exact YG.neg rfl X | exact YG.hH rfl rfl | exact YG.lM rfl (by first | rfl | exact IntWalk.i64_in _ X | exact IntWalk.u8_in _ X | assumption) | exact YG.str rfl ay))) | (apply YQ.f;(· exact rfl);(· apply pX;(· exact rfl);(· first | exact rfl | assumption))))))):A:=s
theorem zeJ {A:Prop} (s:A:=by show ¬ (decide (a < 0)=true);rw [ha];decide):A:=s
theorem zeK {A:Prop} (s:A:=by rw [he];intro h0;cases h0;exact hx rfl):A:=s
theorem zeL {A:Prop} (s:A:=by simp):A:=s
theorem zeM {A:Prop} (s:A:=by omega):A:=s
theorem zeN {A:Prop} (s:A:=by rw [he];intro h0;cases h0):A:=s
theorem zeO {A:Prop} (s:A:=by simpa using h):A:=s
theorem zeP {A:Prop} (s:A:=by unfold lim;omega):A:=s
theorem zeQ {A:Prop} (s:A:=by simpa using hl):A:=s
theorem zeR {A:Prop} (s:A:=by rw [aZ];omega):A:=s
theorem zeS {A:Prop} (s:A:=by rw [h0]):A:=s
theorem zeT {A:Prop} (s:A:=by cases h):A:=s
theorem zeU {A:Prop} (s:A:=by simpa using iH h5 0 t rfl):A:=s
theorem zeV {A:Prop} (s:A:=by simp only [ju,aB];omega):A:=s
theorem zeW {A:Prop} (s:A:=by simp only [rH] at h |-;omega):A:=s
theorem zeX {A:Prop} (s:A:=by unfold fW at hf |-;rw [jZ];exact hf):A:=s
theorem zeY {A:Prop} (s:A:=by rw [bG,fq,ad (fun e=>bZ e.symm)];exact hi):A:=s
theorem zeZ {A:Prop} (s:A:=by rw [hs];decide):A:=s
theorem ze0 {A:Prop} (s:A:=by simpa using hb):A:=s
theorem ze1 {A:Prop} (s:A:=by simpa using hj):A:=s
theorem ze2 {A:Prop} (s:A:=by rw [List.mem_take_iff_getElem];exact ⟨j,by omega,rfl⟩):A:=s
theorem ze3 {A:Prop} (s:A:=by rw [jZ];exact hs):A:=s
theorem ze4 {A:Prop} (s:A:=by rw [se];omega):A:=s
theorem ze5 {A:Prop} (s:A:=by unfold fN;omega):A:=s
theorem ze6 {A:Prop} (s:A:=by simp;omega):A:=s
theorem ze7 {A:Prop} (s:A:=by simpa using D):A:=s
theorem ze8 {A:Prop} (s:A:=by simp only [aJ,length_cons,length_nil];omega):A:=s
theorem ze9 {A:Prop} (s:A:=by rw [cE];trivial):A:=s
theorem zfa {A:Prop} (s:A:=by simpa using iH h5 1 u rfl):A:=s
theorem zfb {A:Prop} (s:A:=by simp [Op.operands]):A:=s
theorem zfc {A:Prop} (s:A:=by first | rfl | exact IntWalk.i64_in _ X | exact IntWalk.u8_in _ X | assumption):A:=s
theorem zfd {A:Prop} (s:A:=by rw [ha];rfl):A:=s
theorem zfe {A:Prop} (s:A:=by simpa using I):A:=s
theorem zff {A:Prop} (s:A:=by rw [dE];exact hb):A:=s
theorem zfg {A:Prop} (s:A:=by unfold KF at hg;omega):A:=s
theorem zfh {A:Prop} (s:A:=by rw [cz];trivial):A:=s
theorem zfi {A:Prop} (s:A:=by simpa using h0):A:=s
theorem zfj {A:Prop} (s:A:=by unfold lim aZ;omega):A:=s
theorem zfk {A:Prop} (s:A:=by rw [length_cons] at hG;omega):A:=s
theorem zfl {A:Prop} (s:A:=by rw [fJ];exact gz.1):A:=s
theorem zfm {A:Prop} (s:A:=by rw [bc];omega):A:=s
theorem zfn {A:Prop} (s:A:=by rw [cU];omega):A:=s
theorem zfo {A:Prop} (s:A:=by rw [h3.1,hk]):A:=s
theorem zfp {A:Prop} (s:A:=by simp [hi]):A:=s
theorem zfq {A:Prop} (s:A:=by simp at fJ;omega):A:=s
theorem zfr {A:Prop} (s:A:=by simp at hb):A:=s
theorem zfs {A:Prop} (s:A:=by rw [hv];decide):A:=s
theorem zft {A:Prop} (s:A:=by simpa using hn):A:=s
theorem zfu {A:Prop} (s:A:=by simpa using hc):A:=s
theorem zfv {A:Prop} (s:A:=by simpa using hk):A:=s
theorem zfw {A:Prop} (s:A:=by rw [jA,nD,<-Nat.add_mul,fJ];exact la _ hroom):A:=s
theorem zfx {A:Prop} (s:A:=by rw [bP,I];rfl):A:=s
theorem zfy {A:Prop} (s:A:=by simp [rs]):A:=s
theorem zfz {A:Prop} (s:A:=by rw [il iG];simp [iG]):A:=s
theorem zfA {A:Prop} (s:A:=by have:=kH ht;simp only [rH] at h |-;omega):A:=s
theorem zfB {A:Prop} (s:A:=by rw [show k+1+t=k+(t+1) by omega];exact h):A:=s
theorem zfC {A:Prop} (s:A:=by simpa [bG] using hj):A:=s
theorem zfD {A:Prop} (s:A:=by rw [AF,se];exact growslice_fits zeM zeM):A:=s
theorem zfE {A:Prop} (s:A:=by cases hb):A:=s
theorem zfF {A:Prop} (s:A:=by rw [xF hp hu];rintro ⟨_,h⟩;cases h):A:=s
theorem zfG {A:Prop} (s:A:=by simpa [mA] using D):A:=s
theorem zfH {A:Prop} (s:A:=by cases h;rfl):A:=s
theorem zfI {A:Prop} (s:A:=by have:=hn.fresh;have:=h.ext.size;omega):A:=s
theorem zfJ {A:Prop} (s:A:=by have:=vI ha;omega):A:=s
theorem zfK {A:Prop} (s:A:=by have:=hb i;rw [h] at this;exact this):A:=s
end Go
namespace Go
theorem ak {A:Prop} (s:A:=by omega):A:=s
theorem ai {A:Prop} (s:A:=by decide):A:=s
theorem bh {α:Type _} {l:List α} {i:Nat} {a:α} (h:l[i]?=some a):∃ (h:i<l.length),l[i]=a:=List.getElem?_eq_some_iff.1 h
theorem ew {α:Type _} {a b:α} {l:List α} (h:a∈b::l):a=b\/a∈l:=List.mem_cons.1 h
theorem nY {α:Type _} {a:α} {s t:List α} (h:a∈s++t):a∈s\/a∈t:=List.mem_append.1 h
theorem nZ {α:Type _} {l:List α} {i:Nat} (h:l[i]?=none):l.length<=i:=List.getElem?_eq_none_iff.1 h
theorem ad:type_of% @if_neg:=@if_neg
theorem ah:type_of% @if_pos:=@if_pos
theorem au:type_of% @Bool.and_eq_true:=@Bool.and_eq_true
theorem bM:type_of% @List.mem_of_getElem?:=@List.mem_of_getElem?
theorem aJ:type_of% @List.length_append:=@List.length_append
theorem aD:type_of% @Nat.le_refl:=@Nat.le_refl
theorem bP:type_of% @List.getElem?_map:=@List.getElem?_map
theorem aY:type_of% @Nat.zero_le:=@Nat.zero_le
theorem ec:type_of% @List.getElem?_eq_getElem:=@List.getElem?_eq_getElem
theorem cU:type_of% @List.length_map:=@List.length_map
theorem gk:type_of% @List.eq_nil_of_length_eq_zero:=@List.eq_nil_of_length_eq_zero
theorem eK:type_of% @List.take_add_one:=@List.take_add_one
theorem fU:type_of% @Nat.le_of_ble_eq_true:=@Nat.le_of_ble_eq_true
theorem iZ:type_of% @List.take_length:=@List.take_length
theorem fF:type_of% @List.append_assoc:=@List.append_assoc
theorem eo:type_of% @Nat.zero_add:=@Nat.zero_add
theorem di:type_of% @List.mem_cons_of_mem:=@List.mem_cons_of_mem
theorem jO:type_of% @List.getElem?_append_right:=@List.getElem?_append_right
theorem lH:type_of% @List.length_take:=@List.length_take
theorem fk:type_of% @List.append_nil:=@List.append_nil
theorem il:type_of% @List.getElem?_append_left:=@List.getElem?_append_left
theorem fq:type_of% @List.getElem?_set:=@List.getElem?_set
theorem rj:type_of% @List.length_zipWith:=@List.length_zipWith
theorem iD:type_of% @Nat.add_assoc:=@Nat.add_assoc
theorem wR:type_of% @Nat.sub_self:=@Nat.sub_self
theorem o8:type_of% @List.drop_eq_getElem_cons:=@List.drop_eq_getElem_cons
theorem nq:type_of% @List.take_of_length_le:=@List.take_of_length_le
theorem gm:type_of% @Nat.le_trans:=@Nat.le_trans
theorem jw:type_of% @List.length_drop:=@List.length_drop
theorem DW:type_of% @Option.some.inj:=@Option.some.inj
theorem lI:type_of% @List.map_append:=@List.map_append
theorem mH:type_of% @List.contains_iff_mem:=@List.contains_iff_mem
theorem lJ:type_of% @of_decide_eq_true:=@of_decide_eq_true
theorem fV:type_of% @List.all_eq_true:=@List.all_eq_true
theorem mI:type_of% @Int.toNat_natCast:=@Int.toNat_natCast
theorem la:type_of% @Nat.mul_le_mul_right:=@Nat.mul_le_mul_right
theorem wT:type_of% @Nat.lt_of_lt_of_le:=@Nat.lt_of_lt_of_le
theorem yJ:type_of% @mem_map:=@mem_map
theorem yK:type_of% @List.any_eq_true:=@List.any_eq_true
end Go
namespace Go.Xp
abbrev ae:=List UInt8
structure Tok where
 kind:Int
 n:Int
 s:ae
 at_:Int
structure Nd where
 kind:Int
 at_:Int
 n:Int
 s:ae
 kids:List Int
inductive T where
 | mk (n:Nd) (kids:List T)
def T.n:T->Nd | .mk n _=>n
def T.kids:T->List T | .mk _ k=>k
abbrev Er:=Int × Int
abbrev Rd (α:Type):=Except Er (α × List Tok)
def df (t:Tok):ae:=if t.kind=3 then t.s else []
def sign (ts:List Tok) (k:Nat):ae:=match ts[k]? with | some t=>df t | none=>[]
def place (e:Int):List Tok->Int
 | t::_=>t.at_
 | []=>e
def aI (e:Int) (s:ae) (ts:List Tok):Except Er (List Tok) :=
 if sign ts 0=s then .ok ts.tail else .error (7,place e ts)
def name (e:Int):List Tok->Rd ae
 | []=>.error (7,e)
 | t::r=>if t.kind=2 then (if t.s.length > 12 then .error (8,t.at_) else .ok (t.s,r)) else .error (7,t.at_)
def one (kind at_:Int) (s:ae) (kids:List T):T:=.mk ⟨kind,at_,0,s,[]⟩ kids
def levels:List (List ae):=[[[124,124]],[[38,38]],[[61,61],[33,61],[60],[62],[60,61],[62,61]],[[124]],[[94]],[[38]],[[60,60],[62,62]],[[43],[45]],[[42],[47],[37]]]
def be:Er:=(-1,-1)
inductive sM where
 | expr (deep:Nat)
 | level (k deep:Nat)
 | loop (k deep:Nat) (out:T)
 | operand (deep:Nat)
def rd (e:Int):Nat->sM->List Tok->Rd T
 | 0,_,_=>.error be
 | f+1,.expr deep,ts=>if deep > 60 then .error (9,place e ts) else rd e f (.level 0 (deep+1)) ts
 | f+1,.level k deep,ts =>
  if k=9 then rd e f (.operand deep) ts
  else match rd e f (.level (k+1) deep) ts with
   | .error x=>.error x
   | .ok (out,ts)=>rd e f (.loop k deep out) ts
 | f+1,.loop k deep out,ts =>
  match ts with
  | []=>.ok (out,ts)
  | t::r =>
   if t.kind=3/\t.s∈levels.getD k [] then
    match rd e f (.level (k+1) deep) r with
    | .error x=>.error x
    | .ok (b,r)=>rd e f (.loop k deep (one 6 t.at_ t.s [out,b])) r
   else .ok (out,ts)
 | f+1,.operand deep,ts =>
  if deep > 60 then .error (9,place e ts)
  else match ts with
  | []=>.error (7,e)
  | t::r =>
   if t.kind=3 then
    if t.s=[45]\/t.s=[33]\/t.s=[126] then
     match rd e f (.operand (deep+1)) r with
     | .error x=>.error x
     | .ok (a,r)=>.ok (one 5 t.at_ t.s [a],r)
    else if t.s=[40] then
     match rd e f (.expr (deep+1)) r with
     | .error x=>.error x
     | .ok (a,r)=>match aI e [41] r with
      | .error x=>.error x
      | .ok r=>.ok (a,r)
    else .error (7,t.at_)
   else if t.kind=1 then .ok (.mk ⟨1,t.at_,t.n,[],[]⟩ [],r)
   else match name e ts with
    | .error x=>.error x
    | .ok (s,r) =>
     if sign r 0=[91] then
      match rd e f (.expr (deep+1)) r.tail with
      | .error x=>.error x
      | .ok (a,r)=>match aI e [93] r with
       | .error x=>.error x
       | .ok r=>.ok (one 3 t.at_ s [a],r)
     else if sign r 0=[40] then
      match args e f (deep+1) [] r.tail with
      | .error x=>.error x
      | .ok (l,r)=>.ok (one 4 t.at_ s l,r)
     else .ok (one 2 t.at_ s [],r)
where
 args (e:Int):Nat->Nat->List T->List Tok->Rd (List T)
  | 0,_,_,_=>.error be
  | f+1,deep,acc,ts =>
   if sign ts 0=[41] then .ok (acc,ts.tail)
   else match (if acc=[] then .ok ts else aI e [44] ts) with
    | .error x=>.error x
    | .ok ts=>match rd e f (.expr deep) ts with
     | .error x=>.error x
     | .ok (a,ts)=>args e f deep (acc++[a]) ts
def lF:ae:=[118,97,114]
def eW:ae:=[105,102]
def gF:ae:=[101,108,115,101]
def fC:ae:=[119,104,105,108,101]
def fL:ae:=[114,101,116,117,114,110]
def gQ:ae:=[105,110,116]
def fv:ae:=[102,117,110,99]
inductive rS where
 | block (deep:Nat)
 | stmt (deep:Nat)
def mO (ts:List Tok):Nat:=20 * ts.length+20
def expr (e:Int) (deep:Nat) (ts:List Tok):Rd T:=rd e (mO ts) (.expr deep) ts
def inner (e:Int) (deep:Nat) (a b:ae) (ts:List Tok):Rd T :=
 match aI e a ts with
 | .error x=>.error x
 | .ok ts=>match expr e deep ts with
  | .error x=>.error x
  | .ok (t,ts)=>match aI e b ts with
   | .error x=>.error x
   | .ok ts=>.ok (t,ts)
def kW (e:Int) (deep:Nat) (ts:List Tok):Rd (ae × T) :=
 match name e ts with
 | .error x=>.error x
 | .ok (s,ts)=>match inner e deep [61] [59] ts with
  | .error x=>.error x
  | .ok (t,ts)=>.ok ((s,t),ts)
def simple (e:Int) (deep:Nat) (ts:List Tok):Rd T :=
 match ts with
 | []=>match expr e (deep+1) [] with
  | .error x=>.error x
  | .ok _=>.error (7,e)
 | t::_ =>
  if t.kind=2/\sign ts 1=[61] then
   match kW e (deep+1) ts with
   | .error x=>.error x
   | .ok ((s,a),ts)=>.ok (one 7 t.at_ s [a],ts)
  else match expr e (deep+1) ts with
   | .error x=>.error x
   | .ok (a,ts) =>
    if a.n.kind=3/\a.n.at_=t.at_/\sign ts 0=[61] then
     match inner e (deep+1) [61] [59] ts with
     | .error x=>.error x
     | .ok (v,ts)=>.ok (one 8 t.at_ a.n.s (a.kids.take 1++[v]),ts)
    else match aI e [59] ts with
     | .error x=>.error x
     | .ok ts=>.ok (one 12 t.at_ [] [a],ts)
def rs (e:Int):Nat->rS->List Tok->Rd T
 | 0,_,_=>.error be
 | f+1,.block deep,ts =>
  if deep > 60 then .error (9,place e ts)
  else match aI e [123] ts with
   | .error x=>.error x
   | .ok r=>match body e f (deep+1) [] r with
    | .error x=>.error x
    | .ok (l,r)=>.ok (one 14 (place e ts) [] l,r)
 | f+1,.stmt deep,ts =>
  if deep > 60 then .error (9,place e ts)
  else
   let at_:=place e ts
   if sign ts 0=lF then
    match kW e (deep+1) ts.tail with
    | .error x=>.error x
    | .ok ((s,a),ts)=>.ok (one 13 at_ s [a],ts)
   else if sign ts 0=eW\/sign ts 0=fC then
    match inner e (deep+1) [40] [41] ts.tail with
    | .error x=>.error x
    | .ok (c,r)=>match rs e f (.block (deep+1)) r with
     | .error x=>.error x
     | .ok (b,r) =>
      if sign ts 0=eW then
       if sign r 0=gF then
        match rs e f (.block (deep+1)) r.tail with
        | .error x=>.error x
        | .ok (b2,r)=>.ok (one 9 at_ [] [c,b,b2],r)
       else .ok (one 9 at_ [] [c,b],r)
      else .ok (one 10 at_ [] [c,b],r)
   else if sign ts 0=fL then
    match expr e (deep+1) ts.tail with
    | .error x=>.error x
    | .ok (a,ts)=>match aI e [59] ts with
     | .error x=>.error x
     | .ok ts=>.ok (one 11 at_ [] [a],ts)
   else simple e deep ts
where
 body (e:Int):Nat->Nat->List T->List Tok->Rd (List T)
  | 0,_,_,_=>.error be
  | f+1,deep,acc,ts =>
   if sign ts 0=[125] then .ok (acc,ts.tail)
   else match rs e f (.stmt deep) ts with
    | .error x=>.error x
    | .ok (a,ts)=>body e f deep (acc++[a]) ts
def block (e:Int) (deep:Nat) (ts:List Tok):Rd T:=rs e (mO ts) (.block deep) ts
structure Ar where
 name:ae
 size:Int
structure ba where
 name:ae
 params:List ae
 tree:T
end Go.Xp
namespace Go.Sp
open Go.Xp
structure RS where
 l:List Tok
 i:Nat
 e:Int
 code:Int
 at_:Int
def RS.ok (p:RS):Prop:=p.i<=p.l.length/\p.l.length<=1099511627776
def RS.place (p:RS):Int:=match p.l[p.i]? with | some t=>t.at_ | none=>p.e
def RS.fail (p:RS) (c a:Int):RS:=if p.code=0 then ⟨p.l,p.i,p.e,c,a⟩ else p
def RS.sign (p:RS) (k:Nat):ae:=if p.code=0 then (match p.l[p.i+k]? with | some t=>df t | none=>[]) else []
def RS.next (p:RS):RS:=⟨p.l,p.i+1,p.e,p.code,p.at_⟩
def RS.aI (p:RS) (s:ae):RS:=if p.sign 0=s then p.next else p.fail 7 p.place
def RS.name (p:RS):ae × RS :=
 if p.code=0 then match p.l[p.i]? with
  | some t=>if t.kind=2 then (if t.s.length > 12 then ([],p.fail 8 t.at_) else (t.s,p.next)) else ([],p.fail 7 p.place)
  | none=>([],p.fail 7 p.place)
 else ([],p)
def RS.deep (p:RS) (d:Nat):RS:=if d > 60 then p.fail 9 p.place else p
def T.zero:T:=.mk ⟨0,0,0,[],[]⟩ []
inductive J where
 | expr (d:Nat)
 | level (k d:Nat)
 | loop (k d:Nat) (out:T)
 | operand (d:Nat)
 | named (at_:Int) (s:ae) (d:Nat)
mutual
def mE:Nat->J->RS->Option (T × RS)
 | 0,_,_=>none
 | f+1,.expr d,p=>mE f (.level 0 d) (p.deep d)
 | f+1,.level k d,p =>
  if k=9 then mE f (.operand (d+1)) p
  else match mE f (.level (k+1) d) p with
   | none=>none
   | some (out,p)=>mE f (.loop k d out) p
 | f+1,.loop k d out,p =>
  if p.code=0/\(levels.getD k []).contains (p.sign 0)=true then
   match p.l[p.i]? with
   | none=>none
   | some t=>match mE f (.level (k+1) d) p.next with
    | none=>none
    | some (b,p)=>mE f (.loop k d (one 6 t.at_ t.s [out,b])) p
  else some (out,p)
 | f+1,.operand d,p =>
  let p:=p.deep d
  if p.code=0 then match p.l[p.i]? with
   | none=>some (T.zero,p.fail 7 p.place)
   | some t =>
    if t.kind=1 then some (.mk ⟨1,t.at_,t.n,[],[]⟩ [],p.next)
    else if t.kind=2 then mE f (.named t.at_ p.name.1 d) p.name.2
    else if t.s=[45]\/t.s=[33]\/t.s=[126] then match mE f (.operand (d+1)) p.next with
     | none=>none
     | some (a,p)=>some (one 5 t.at_ t.s [a],p)
    else if t.s=[40] then match mE f (.expr (d+1)) p.next with
     | none=>none
     | some (a,p)=>some (a,p.aI [41])
    else some (T.zero,p.fail 7 t.at_)
  else some (T.zero,p.fail 7 p.place)
 | f+1,.named at_ s d,p =>
  if p.sign 0=[91] then match mE f (.expr (d+1)) p.next with
   | none=>none
   | some (a,p)=>some (one 3 at_ s [a],p.aI [93])
  else if p.sign 0=[40] then match mL f (d+1) p.next with
   | none=>none
   | some (l,p)=>some (one 4 at_ s l,p)
  else some (one 2 at_ s [],p)
def mL:Nat->Nat->RS->Option (List T × RS)
 | 0,_,_=>none
 | f+1,d,p=>if p.sign 0=[41] then some ([],p.aI [41]) else match mE f (.expr d) p with
  | none=>none
  | some (a,p)=>pK f d [a] p
def pK:Nat->Nat->List T->RS->Option (List T × RS)
 | 0,_,_,_=>none
 | f+1,d,acc,p=>if p.sign 0=[44] then match mE f (.expr d) p.next with
   | none=>none
   | some (a,p)=>pK f d (acc++[a]) p
  else some (acc,p.aI [41])
end
def RS.nH (p:RS):Bool:=match p.l[p.i]? with | some t=>decide (t.kind=2) | none=>false
def RS.ck (p:RS):Int:=if p.sign 0=eW then 9 else 10
inductive JS where
 | block (d:Nat)
 | stmt (d:Nat)
 | cond (at_:Int) (d:Nat)
def fe (p:RS):Nat:=100 * p.l.length+2000
def mX (d:Nat) (p:RS):Option (T × RS):=mE (fe p) (.expr d) p
mutual
def mS:Nat->JS->RS->Option (T × RS)
 | 0,_,_=>none
 | f+1,.block d,p =>
  let p:=p.deep d
  match mB f (d+1) [] (p.aI [123]) with
  | none=>none
  | some (l,q)=>some (one 14 p.place [] l,q.aI [125])
 | f+1,.stmt d,p =>
  let p:=p.deep d
  let at_:=p.place
  let s:=p.sign 0
  if s=lF then match mX (d+1) ((p.next.name.2).aI [61]) with
   | none=>none
   | some (e,q)=>some (one 13 at_ p.next.name.1 [e],q.aI [59])
  else if s=eW\/s=fC then mS f (.cond at_ d) p
  else if s=fL then match mX (d+1) p.next with
   | none=>none
   | some (e,q)=>some (one 11 at_ [] [e],q.aI [59])
  else if p.code=0/\p.nH=true/\p.sign 1=[61] then match mX (d+1) (p.name.2.aI [61]) with
   | none=>none
   | some (e,q)=>some (one 7 at_ p.name.1 [e],q.aI [59])
  else match mX (d+1) p with
   | none=>none
   | some (e,q) =>
    if e.n.kind=3/\e.n.at_=at_/\q.sign 0=[61] then match e.kids,mX (d+1) q.next with
     | a::_,some (v,q)=>some (one 8 at_ e.n.s [a,v],q.aI [59])
     | _,_=>none
    else some (one 12 at_ [] [e],q.aI [59])
 | f+1,.cond at_ d,p =>
  match mX (d+1) (p.next.aI [40]) with
  | none=>none
  | some (e,q)=>match mS f (.block (d+1)) (q.aI [41]) with
   | none=>none
   | some (b,q) =>
    if p.ck=9/\q.sign 0=gF then match mS f (.block (d+1)) q.next with
     | none=>none
     | some (b2,q)=>some (one p.ck at_ [] [e,b,b2],q)
    else some (one p.ck at_ [] [e,b],q)
def mB:Nat->Nat->List T->RS->Option (List T × RS)
 | 0,_,_,_=>none
 | f+1,d,acc,p=>if p.code=0/\¬ p.sign 0=[125] then match mS f (.stmt d) p with
   | none=>none
   | some (a,p)=>mB f d (acc++[a]) p
  else some (acc,p)
end
theorem cW {p:RS} {k:Nat} {s:ae} (h:p.sign k=s) (hs:s≠[]):p.i+k < p.l.length/\p.code=0:=by
 unfold RS.sign at h;split at h
 ·rename_i hc;refine ⟨Nat.lt_of_not_le fun hn=>?_,hc⟩;rw [List.getElem?_eq_none_iff.2 hn] at h;exact hs h.symm
 ·exact absurd h.symm hs
def RS.to (p q:RS):Prop:=q.l=p.l/\q.e=p.e/\q.i<=q.l.length/\p.i<=q.i
theorem RS.to.ok {p q:RS} (h:p.to q) (hp:p.ok):q.ok:=⟨h.2.2.1,by rw [h.1];exact hp.2⟩
theorem RS.to.trans {p q r:RS} (h:p.to q) (k:q.to r):p.to r:=⟨k.1.trans h.1,k.2.1.trans h.2.1,k.2.2.1,gm h.2.2.2 k.2.2.2⟩
theorem iv {p:RS} (hp:p.ok):p.to p:=⟨rfl,rfl,hp.1,aD _⟩
theorem jv {p:RS} (hp:p.ok) (c a:Int):p.to (p.fail c a):=by
 unfold RS.fail;split
 ·exact ⟨rfl,rfl,hp.1,aD _⟩
 ·exact iv hp
theorem cl {p:RS} (h:p.i < p.l.length):p.to p.next:=⟨rfl,rfl,h,Nat.le_succ _⟩
theorem bq {p:RS} (hp:p.ok) {s:ae} (hs:s≠[]):p.to (p.aI s):=by
 unfold RS.aI;split
 ·rename_i h;exact cl (by have:=(cW h hs).1;omega)
 ·exact zet
theorem dY {p:RS} (hp:p.ok):p.to p.name.2:=by
 unfold RS.name;split
 ·cases ht:p.l[p.i]? with
  | none=>exact zet
  | some t =>
   simp only;have ar:=(bh ht).1;split
   ·split
    ·exact zet
    ·exact cl ar
   ·exact zet
 ·exact iv hp
theorem fX {p:RS} (hp:p.ok) (d:Nat):p.to (p.deep d):=by
 unfold RS.deep;split
 ·exact zet
 ·exact iv hp
theorem db {p:RS} {s:ae} (h:p.sign 0=s) (hs:s≠[]):p.to p.next:=cl (by have:=(cW h hs).1;omega)
theorem rb:∀ (f:Nat),(∀ j p t q,p.ok->mE f j p=some (t,q)->p.to q)/\(∀ d p l q,p.ok->mL f d p=some (l,q)->p.to q)/\(∀ d acc p l q,p.ok->pK f d acc p=some (l,q)->p.to q)
 | 0=>⟨fun j p t q _ h=>by simp [mE] at h,fun d p l q _ h=>by simp [mL] at h,fun d acc p l q _ h=>by simp [pK] at h⟩
 | f+1=>by
  obtain ⟨D,I,h3⟩:=rb f;refine ⟨fun j p t q hp h=>?_,fun d p l q hp h=>?_,fun d acc p l q hp h=>?_⟩
  ·cases j with
   | expr d=>rw [mE] at h;exact (fX hp d).trans (D _ _ _ _ ((fX hp d).ok hp) h)
   | level k d =>
    rw [mE] at h;split at h
    ·exact D _ _ _ _ hp h
    ·split at h
     ·cases h
     ·rename_i out p' he;have:=D _ _ _ _ hp he;exact zb3
   | loop k d out =>
    rw [mE] at h;split at h
    ·split at h
     ·cases h
     ·rename_i t' ht;have hn:=cl (p:=p) (bh ht).1;split at h
      ·cases h
      ·exact zdK
    ·cases h;exact iv hp
   | operand d =>
    rw [mE] at h;have hd:=fX hp d;have c7:=hd.ok hp;refine hd.trans ?_;generalize p.deep d=p at *
    try simp only at h
    split at h
    ·split at h
     ·cases h;exact jv c7 _ _
     ·rename_i t' ht;have hn:=cl (p:=p) (bh ht).1;split at h
      ·cases h;exact hn
      ·split at h
       ·exact (dY c7).trans (D _ _ _ _ ((dY c7).ok c7) h)
       ·split at h
        ·split at h
         ·cases h
         ·rename_i a p' he
          cases h;exact hn.trans (D _ _ _ _ (hn.ok c7) he)
        ·split at h
         ·split at h
          ·cases h
          ·rename_i a p' he;have:=hn.trans (D _ _ _ _ (hn.ok c7) he)
           cases h;exact zbu
         ·cases h;exact jv c7 _ _
    ·cases h;exact jv c7 _ _
   | named a s d =>
    rw [mE] at h;split at h
    ·rename_i hs;have hn:=db hs ai;split at h
     ·cases h
     ·rename_i a' p' he;have:=hn.trans (D _ _ _ _ (hn.ok hp) he)
      cases h;exact this.trans (bq (this.ok hp) ai)
    ·split at h
     ·rename_i hs;have hn:=db hs ai;split at h
      ·cases h
      ·rename_i a' p' he
       cases h;exact hn.trans (I _ _ _ _ (hn.ok hp) he)
     ·cases h;exact iv hp
  ·rw [mL] at h;split at h
   ·cases h;exact bq hp ai
   ·split at h
    ·cases h
    ·rename_i a p' he;have:=D _ _ _ _ hp he;exact this.trans (h3 _ _ _ _ _ (this.ok hp) h)
  ·rw [pK] at h;split at h
   ·rename_i hs;have hn:=db hs ai;split at h
    ·cases h
    ·rename_i a p' he;have:=hn.trans (D _ _ _ _ (hn.ok hp) he);exact this.trans (h3 _ _ _ _ _ (this.ok hp) h)
   ·cases h;exact bq hp ai
def small (c:UInt8):Bool:=decide ((97:Int)<=(c.toNat:Int))&&decide ((c.toNat:Int)<=122)
def dN (c:UInt8):Bool:=decide ((48:Int)<=(c.toNat:Int))&&decide ((c.toNat:Int)<=57)
def dV (c:UInt8):Bool:=small c || (decide ((65:Int)<=(c.toNat:Int))&&decide ((c.toNat:Int)<=90)) || dN c || ((c.toNat:Int)==95)
def eH (c:UInt8):Bool:=((c.toNat:Int)==32) || ((c.toNat:Int)==9) || ((c.toNat:Int)==10) || ((c.toNat:Int)==13)
def bR (s:ae) (at_:Nat) (t:ae):Bool:=decide (at_+t.length<=s.length)&&((s.take (at_+t.length)).drop at_==t)
def eS (s:ae):Nat->Nat->Nat
 | 0,e=>e
 | f+1,e=>if e < s.length/\bR s e [42,47]=false then eS s f (e+1) else e
def skip (s:ae):Nat->Nat->Nat × Int
 | 0,at_=>(at_,-1)
 | f+1,at_=>match s[at_]? with
  | none=>(at_,-1)
  | some c =>
   if eH c=true then skip s f (at_+1)
   else if bR s at_ [47,42]=true then
    let e:=eS s s.length (at_+2)
    if s.length<=e then (at_,(at_:Int)) else skip s f (e+2)
   else (at_,-1)
theorem jE {s t:ae} {a:Nat} (h:bR s a t=true):a+t.length<=s.length:=by
 simp only [bR,au,decide_eq_true_eq] at h;exact h.1
theorem si (s:ae):∀ (f e:Nat),e<=s.length->e<=eS s f e/\eS s f e<=s.length
 | 0,e,h=>⟨aD _,h⟩
 | f+1,e,h=>by
  rw [eS];split
  ·rename_i hc;have:=si s f (e+1) hc.1;omega
  ·exact zd6
theorem q9 (s:ae):∀ (f e:Nat),e<=s.length->s.length<=f+e->¬ (eS s f e < s.length/\bR s (eS s f e) [42,47]=false)
 | 0,e,h,hf=>by rw [eS];omega
 | f+1,e,h,hf=>by
  rw [eS];split
  ·rename_i hc;exact q9 s f (e+1) hc.1 ak
  ·assumption
def number (s:ae):Nat->Int->Nat->Int × Nat
 | 0,n,a=>(n,a)
 | f+1,n,a=>match s[a]? with
  | none=>(n,a)
  | some c=>if dN c=true then number s f (if n<=2147483647 then n * 10+((c.toNat:Int) - 48) else n) (a+1) else (n,a)
def run (s:ae) (p:UInt8->Bool):Nat->Nat->Nat
 | 0,a=>a
 | f+1,a=>match s[a]? with
  | none=>a
  | some c=>if p c=true then run s p f (a+1) else a
def words:List ae:=[[105,110,116],[118,97,114],[102,117,110,99],[105,102],[101,108,115,101],[119,104,105,108,101],[114,101,116,117,114,110]]
def bQ:List ae:=[[124,124],[38,38],[61,61],[33,61],[60,61],[62,61],[60,60],[62,62],[40],[41],[123],[125],[91],[93],[44],[59],[61],[60],[62],[43],[45],[42],[47],[37],[38],[124],[94],[33],[126]]
def eT (s:ae) (a:Nat):Nat:=run s dV (s.length+1) a
def gh (s:ae) (a:Nat):ae:=(s.take (eT s a)).drop a
def eR (s:ae) (a:Nat) (c:UInt8):Tok × Nat :=
 if dN c=true then (⟨1,(number s (s.length+1) 0 a).1,[],a⟩,(number s (s.length+1) 0 a).2)
 else if small c=true then (⟨if words.contains (gh s a)=true then 3 else 2,0,gh s a,a⟩,eT s a)
 else match bQ.find? (bR s a) with
  | some x=>(⟨3,0,x,a⟩,a+x.length)
  | none=>(⟨0,0,[],0⟩,a)
def ql (s:ae):Nat->Nat->List Tok->Option (List Tok)
 | 0,_,_=>none
 | f+1,a,acc=>match s[a]? with
  | none=>some acc
  | some c=>ql s f (skip s (s.length+1) (eR s a c).2).1 (acc++[(eR s a c).1])
def eI (s:ae):Option (List Tok):=ql s (s.length+2) (skip s (s.length+1) 0).1 []
def word (s:ae):Bool:=s.all dV&&(match s with | []=>false | c::_=>small c)
def bC (s:ae):Bool:=word s&&decide (s.length<=12)&&!(words.contains s)
theorem so (s:ae):∀ (f:Nat) (n:Int) (a:Nat),a<=s.length->s.length < f+a->(∀ c,s[(number s f n a).2]?=some c->dN c=false)/\a<=(number s f n a).2/\(number s f n a).2<=s.length
 | 0,n,a,D,I=>by omega
 | f+1,n,a,D,I=>by
  rw [number]
  cases hc:s[a]? with
  | none=>exact ⟨fun c h=>(by rw [hc] at h;cases h),aD _,D⟩
  | some c =>
   simp only;have ar:=(bh hc).1
   by_cases hd:dN c=true
   ·rw [ah hd];obtain ⟨h3,h4,h5⟩:=so s f (if n<=2147483647 then n * 10+((c.toNat:Int) - 48) else n) (a+1) ak ak;exact ⟨h3,by omega,h5⟩
   ·exact zc3
theorem oa (s:ae) (p:UInt8->Bool):∀ (f:Nat) (a:Nat),a<=s.length->s.length < f+a->(∀ c,s[run s p f a]?=some c->p c=false)/\a<=run s p f a/\run s p f a<=s.length
 | 0,a,D,I=>by omega
 | f+1,a,D,I=>by
  rw [run]
  cases hc:s[a]? with
  | none=>exact ⟨fun c h=>(by rw [hc] at h;cases h),aD _,D⟩
  | some c =>
   simp only;have ar:=(bh hc).1
   by_cases hd:p c=true
   ·rw [ah hd];obtain ⟨h3,h4,h5⟩:=oa s p f (a+1) ak ak;exact ⟨h3,by omega,h5⟩
   ·exact zc3
theorem sH (s:ae):∀ (f a:Nat),a<=s.length->a<=(skip s f a).1/\(skip s f a).1<=s.length
 | 0,a,h=>⟨aD _,h⟩
 | f+1,a,h=>by
  rw [skip]
  cases hc:s[a]? with
  | none=>exact zd6
  | some c =>
   simp only;have ar:=(bh hc).1;split
   ·have:=sH s f (a+1) ar;omega
   ·split
    ·rename_i hb;have hb:=jE hb;have hb:a+2<=s.length:=hb;have D:=si s s.length (a+2) hb;have I:=q9 s s.length (a+2) hb ak;split
     ·exact zd6
     ·rename_i hn
      have h3:bR s (eS s s.length (a+2)) [42,47]=true:=by
       cases pB:bR s (eS s s.length (a+2)) [42,47] with
       | true=>rfl
       | false=>exact absurd ⟨by omega,pB⟩ I
      have h3:=jE h3;have h3:eS s s.length (a+2)+2<=s.length:=h3;have:=sH s f (eS s s.length (a+2)+2) h3;omega
    ·exact zd6
theorem eQ {d:Nat} {p q:RS} {t:T} (hp:p.ok) (h:mX d p=some (t,q)):p.to q:=(rb _).1 _ _ _ _ hp h
theorem oX:∀ (f:Nat),(∀ j p t q,p.ok->(∀ a d,j=.cond a d->p.i < p.l.length)->mS f j p=some (t,q)->p.to q)/\(∀ d acc p l q,p.ok->mB f d acc p=some (l,q)->p.to q)
 | 0=>⟨fun j p t q _ _ h=>by simp [mS] at h,fun d acc p l q _ h=>by simp [mB] at h⟩
 | f+1=>by
  obtain ⟨D,I⟩:=oX f
  have et:∀ d (p:RS) t q,p.ok->mS f (.block d) p=some (t,q)->p.to q:=fun d p t q hp h=>D _ _ _ _ hp (fun a d' h=>by cases h) h
  refine ⟨fun j p t q hp nj h=>?_,fun d acc p l q hp h=>?_⟩
  ·cases j with
   | block d =>
    rw [mS] at h;have hd:=fX hp d;refine hd.trans ?_;have c7:=hd.ok hp;generalize p.deep d=p at *
    try simp only at h
    have hm:=bq c7 (s:=[123]) ai;split at h
    ·cases h
    ·rename_i l p' he;have:=hm.trans (I _ _ _ _ _ (hm.ok c7) he)
     cases h;exact zbu
   | stmt d =>
    rw [mS] at h;have hd:=fX hp d;refine hd.trans ?_;have c7:=hd.ok hp;generalize p.deep d=p at *
    try simp only at h
    split at h
    ·rename_i hs;have hn:=db hs ai;have cL:=hn.trans (dY (hn.ok c7));have dq:=cL.trans (bq (cL.ok c7) (s:=[61]) ai);split at h
     ·cases h
     ·rename_i e p' he;have:=dq.trans (eQ (dq.ok c7) he)
      cases h;exact zbu
    ·split at h
     ·rename_i hs;refine D _ _ _ _ c7 (fun a d' _=>?_) h
      rcases hs with hs | hs
      ·exact zdn
      ·exact zdn
     ·split at h
      ·rename_i hs;have hn:=db hs ai;split at h
       ·cases h
       ·rename_i e p' he;have:=hn.trans (eQ (hn.ok c7) he)
        cases h;exact zbu
      ·split at h
       ·have cL:=dY c7;have dq:=cL.trans (bq (cL.ok c7) (s:=[61]) ai);split at h
        ·cases h
        ·rename_i e p' he;have:=dq.trans (eQ (dq.ok c7) he)
         cases h;exact zbu
       ·split at h
        ·cases h
        ·rename_i e p' he;have hx:=eQ c7 he;split at h
         ·rename_i hs;have hn:=hx.trans (db hs.2.2 ai);split at h
          ·rename_i a r v p2 hk kO;have:=hn.trans (eQ (hn.ok c7) kO)
           cases h;exact zbu
          ·cases h
         ·cases h;exact hx.trans (bq (hx.ok c7) ai)
   | cond a d =>
    rw [mS] at h;have hn:=cl (nj a d rfl);have hm:=hn.trans (bq (hn.ok hp) (s:=[40]) ai)
    try simp only at h
    split at h
    ·cases h
    ·rename_i e p' he;have hx:=hm.trans (eQ (hm.ok hp) he);have nk:=hx.trans (bq (hx.ok hp) (s:=[41]) ai);split at h
     ·cases h
     ·rename_i b p2 hb;have dS:=nk.trans (et _ _ _ _ (nk.ok hp) hb);split at h
      ·rename_i hs;have bL:=dS.trans (db hs.2 ai);split at h
       ·cases h
       ·rename_i b2 p3 rB
        cases h;exact bL.trans (et _ _ _ _ (bL.ok hp) rB)
      ·cases h;exact dS
  ·rw [mB] at h;split at h
   ·split at h
    ·cases h
    ·rename_i a p' he;have:=D _ _ _ _ hp (fun a d' h=>by cases h) he;exact zcY
   ·cases h;exact iv hp
structure Fn where
 name:ae
 params:List ae
 body:Int
structure Src where
 globals:List ae
 arrays:List Ar
 fns:List Fn
 nodes:List Nd
def fa (k:Int):Bool:=decide ((1:Int)<=k)&&decide (k<=6)
def fZ (k:Int):Bool:=decide ((7:Int)<=k)&&decide (k<=13)
def bB (from_:Nat):Nat->List T->Bool
 | _,[]=>true
 | i,t::r=>(if i < from_ then fa t.n.kind else t.n.kind==14)&&bB from_ (i+1) r
def fm (s:ae):Bool:=levels.any fun l=>l.contains s
mutual
def sub (nodes:List Nd):Nat->Nat->Option T
 | 0,_=>none
 | f+1,a=>match nodes[a]? with
  | none=>none
  | some n=>match oE nodes f n.kids [] with
   | none=>none
   | some l=>some (.mk n l)
def oE (nodes:List Nd):Nat->List Int->List T->Option (List T)
 | _,[],acc=>some acc
 | 0,_::_,_=>none
 | f+1,k::r,acc=>if k < 0 then none else match sub nodes f k.toNat with
  | none=>none
  | some t=>oE nodes f r (acc++[t])
end
mutual
def oz (nodes:List Nd):Nat->Nat->Nat->Option Int
 | 0,_,_=>none
 | f+1,a,d=>if nodes.length<=a\/d > 800 then some (-1) else match nodes[a]? with
  | none=>none
  | some n=>nB nodes f n.kids (a+1) d
def nB (nodes:List Nd):Nat->List Int->Int->Nat->Option Int
 | _,[],next,_=>some next
 | 0,_::_,_,_=>none
 | f+1,k::r,next,d=>if k=next then match oz nodes f k.toNat (d+1) with
   | none=>none
   | some e=>if e < 0 then some (-1) else nB nodes f r e d
  else some (-1)
end
def own (n:Nd) (k:Nat) (kd:Nat->Bool) (bl:Bool):Bool :=
 if decide (n.at_ < 0) then false else if n.kind != 1&&n.n != 0 then false
 else if n.kind==1 then decide ((0:Int)<=n.n)&&(decide (n.n<=2147483647)&&(n.s==[]&&(k:Int)==0))
 else if n.kind==2 then bC n.s&&(k:Int)==0
 else if n.kind==3 || n.kind==7 || n.kind==13 then bC n.s&&((k:Int)==1&&kd 1)
 else if n.kind==4 then bC n.s&&kd k
 else if n.kind==5 then (n.s==[45] || n.s==[33] || n.s==[126])&&((k:Int)==1&&kd 1)
 else if n.kind==6 then fm n.s&&((k:Int)==2&&kd 2)
 else if n.kind==8 then bC n.s&&((k:Int)==2&&kd 2)
 else if n.kind==9 then n.s==[]&&(((k:Int)==2 || (k:Int)==3)&&kd 1)
 else if n.kind==10 then n.s==[]&&((k:Int)==2&&kd 1)
 else if n.kind==11 || n.kind==12 then n.s==[]&&((k:Int)==1&&kd 1)
 else if n.kind==14 then bl&&n.s==[]
 else false
def cd (t:T):Bool:=own t.n t.kids.length (fun m=>bB m 0 t.kids) (t.kids.all fun x=>fZ x.n.kind)
mutual
def cX:T->Bool
 | .mk n l=>bX l&&cd (.mk n l)
def bX:List T->Bool
 | []=>true
 | t::r=>cX t&&bX r
end
mutual
def FV:T->Prop
 | .mk n l=>n.s.length<=1099511627776/\l.length<=1099511627776/\wI l
def wI:List T->Prop
 | []=>True
 | t::r=>FV t/\wI r
end
theorem FX:∀ {l:List T} {t:T},wI l->t∈l->FV t
 | [],_,_,h=>by cases h
 | a::r,t,h,hm=>by
  rw [wI] at h
  rcases List.mem_cons.mp hm with rfl | hm
  ·exact h.1
  ·exact FX h.2 hm
theorem FW:∀ {l:List T} {t:T},wI l->FV t->wI (l++[t])
 | [],t,_,ht=>⟨ht,trivial⟩
 | a::r,t,h,ht=>by
  rw [wI] at h;exact ⟨h.1,FW h.2 ht⟩
theorem Ux {nodes:List Nd} (hk:∀ n∈nodes,n.s.length<=1099511627776/\n.kids.length<=1099511627776):∀ f:Nat,(∀ a t,sub nodes f a=some t->FV t)/\(∀ ks acc l,oE nodes f ks acc=some l->acc.length+ks.length=l.length/\(wI acc->wI l)):=by
 intro f
 induction f with
 | zero =>
  refine ⟨fun a t h=>by simp [sub] at h,fun ks acc l h=>?_⟩
  cases ks with
  | nil=>rw [oE] at h;cases h;exact ⟨by simp,id⟩
  | cons k r=>simp [oE] at h
 | succ f ih =>
  constructor
  ·intro a t h;rw [sub] at h
   cases hn:nodes[a]? with
   | none=>exact zde
   | some n =>
   rw [hn] at h;simp only at h
   cases hs:oE nodes f n.kids [] with
   | none=>rw [hs] at h;cases h
   | some l =>
   rw [hs] at h;cases h;have hi:=ih.2 _ _ _ hs;have hb:=hk n (bM hn);exact ⟨hb.1,by have:=hi.1;simp at this;omega,hi.2 trivial⟩
  ·intro ks acc l h
   cases ks with
   | nil=>rw [oE] at h;cases h;exact ⟨by simp,id⟩
   | cons k r =>
    rw [oE] at h
    by_cases hk0:k < 0
    ·rw [ah hk0] at h;cases h
    rw [ad hk0] at h
    cases hs:sub nodes f k.toNat with
    | none=>rw [hs] at h;cases h
    | some t =>
    rw [hs] at h;simp only at h;have I:=ih.2 _ _ _ h;refine ⟨by have:=I.1;simp at this |-;omega,fun ha=>I.2 (FW ha (ih.1 _ _ hs))⟩
def cy:List ae->Bool:=fun l=>l.all bC
def nA (a:Ar):Bool:=bC a.name&&!(decide (a.size < 0))&&!(decide (2147483647 < a.size))
def fN (nodes:List Nd):Nat:=2 * nodes.length+4
def gx (nodes:List Nd):List Fn->Int->Option (Option Int)
 | [],next=>some (some next)
 | f::r,next=>match oz nodes (fN nodes) next.toNat 0 with
  | none=>none
  | some e=>if f.body≠next\/bC f.name=false\/e < 0 then some none else if cy f.params=false then some none else match sub nodes (fN nodes) next.toNat with
   | none=>none
   | some t=>if t.n.kind≠14\/cX t=false then some none else gx nodes r e
def od (p:Src):Option Bool :=
 if cy p.globals=false then some false else if p.arrays.all nA=false then some false else match gx p.nodes p.fns 0 with
  | none=>none
  | some none=>some false
  | some (some next)=>some (next==(p.nodes.length:Int)&&decide (next<=800))
end Go.Sp
namespace Go.Xp
theorem Cg {e:Int} {s:ae} {ts r:List Tok} (h:aI e s ts=.ok r):r=ts.tail/\sign ts 0=s:=by
 unfold aI at h;split at h
 ·cases h;exact ⟨rfl,by assumption⟩
 ·cases h
theorem wB {e:Int} {s:ae} {ts r:List Tok} (h:aI e s ts=.ok r):r.length<=ts.length:=by
 rw [(Cg h).1,List.length_tail];omega
theorem yu {e:Int} {s:ae} {ts r:List Tok} (hs:s≠[]) (h:aI e s ts=.ok r):r.length < ts.length:=by
 obtain ⟨D,I⟩:=Cg h;rw [D,List.length_tail]
 cases ts with
 | nil=>exact absurd I.symm hs
 | cons=>simp
theorem cW {s:ae} {ts:List Tok} (hs:s≠[]) (h:sign ts 0=s):ts.tail.length < ts.length:=by
 cases ts with
 | nil=>exact absurd h.symm hs
 | cons=>simp
theorem pL {e:Int} {s:ae} {ts:List Tok} {x:Er} (h:aI e s ts=.error x):x≠be:=by
 unfold aI at h;split at h
 ·cases h
 ·cases h;intro h0;cases h0
theorem Fx {e:Int} {s:ae} {ts r:List Tok} (h:name e ts=.ok (s,r)):r.length < ts.length:=by
 unfold name at h;split at h
 ·cases h
 ·split at h
  ·split at h
   ·cases h
   ·cases h;simp
  ·cases h
theorem Ib {e:Int} {ts:List Tok} {x:Er} (h:name e ts=.error x):x≠be:=by
 unfold name at h;split at h
 ·cases h;intro h0;cases h0
 ·split at h
  ·split at h <;> cases h;intro h0;cases h0
  ·cases h;intro h0;cases h0
def oC:sM->Nat->Nat
 | .operand _,n=>20 * n+1
 | .loop _ _ _,n=>20 * n+1
 | .level k _,n=>20 * n+2+(9 - k)
 | .expr _,n=>20 * n+12
def wD (acc:List T) (n:Nat):Nat:=match acc with | []=>20 * n+14 | _=>20 * n+1
def Jw:sM->Prop
 | .level k _=>k<=9
 | .loop k _ _=>k < 9
 | _=>True
def EA (e:Int) (f:Nat) (j:sM) (ts:List Tok):Prop :=
 Jw j->(∀ t r,rd e f j ts=.ok (t,r)->r.length<=ts.length)/\(oC j ts.length<=f->rd e f j ts≠.error be)
def PH (e:Int) (f deep:Nat) (acc:List T) (ts:List Tok):Prop :=
 (∀ t r,rd.args e f deep acc ts=.ok (t,r)->r.length<=ts.length)/\(wD acc ts.length<=f->rd.args e f deep acc ts≠.error be)
theorem Yo {a:Int}:((7,a):Er)≠be:=by intro h;cases h
theorem er9 {a:Int}:((9,a):Er)≠be:=by intro h;cases h
theorem Cr (e:Int):∀ f,(∀ j ts,EA e f j ts)/\(∀ deep acc ts,PH e f deep acc ts)
 | 0=>by
  refine ⟨fun j ts _=>⟨fun t r h=>?_,fun h=>?_⟩,fun deep acc ts=>⟨fun t r h=>?_,fun h=>?_⟩⟩
  ·rw [rd] at h;cases h
  ·cases j <;> simp only [oC] at h <;> omega
  ·rw [rd.args] at h;cases h
  ·unfold wD at h;split at h <;> omega
 | f+1=>by
  obtain ⟨ih,xE⟩:=Cr e f;constructor
  ·intro j ts hj
   cases j with
   | expr deep =>
    obtain ⟨D,I⟩:=ih (.level 0 (deep+1)) ts (aY _);rw [rd];split
    ·exact zaV
    ·exact zeA
   | level k deep =>
    have hj:k<=9:=hj;rw [rd];split
    ·obtain ⟨D,I⟩:=ih (.operand deep) ts trivial;exact zeA
    ·obtain ⟨D,I⟩:=ih (.level (k+1) deep) ts (by show k+1<=9;omega);split
     ·rename_i x hx;exact ⟨fun t r h=>zeT,fun h h0=>I (by simp only [oC] at h |-;omega) (hx.trans h0)⟩
     ·rename_i out iz hx;obtain ⟨h3,h4⟩:=ih (.loop k deep out) iz (by show k < 9;omega);have:=D _ _ hx;exact ⟨fun t r h=>gm (h3 t r h) this,fun h=>h4 (by simp only [oC] at h |-;omega)⟩
   | loop k deep out =>
    have hj:k < 9:=hj
    cases ts with
    | nil=>rw [rd];exact zdC
    | cons t0 r0 =>
     rw [rd];split
     ·obtain ⟨D,I⟩:=ih (.level (k+1) deep) r0 (by show k+1<=9;omega);split
      ·exact zar
      ·rename_i b r hx;obtain ⟨h3,h4⟩:=ih (.loop k deep (one 6 t0.at_ t0.s [out,b])) r hj;have:=D _ _ hx;exact ⟨fun t r h=>by have:=h3 t r h;simp only [length_cons];omega,fun h=>h4 (by simp only [oC,length_cons] at h |-;omega)⟩
     ·exact zdC
   | operand deep =>
    cases ts with
    | nil=>rw [rd];split <;> exact ⟨fun t r h=>zeT,fun _ h=>zeT⟩
    | cons t0 r0 =>
    rw [rd];split
    ·exact zaV
    split
    ·split
     ·obtain ⟨D,I⟩:=ih (.operand (deep+1)) r0 trivial;split
      ·exact zar
      ·rename_i a r hx;have:=D _ _ hx;exact zav
     split
     ·obtain ⟨D,I⟩:=ih (.expr (deep+1)) r0 trivial;split
      ·exact zar
      ·rename_i a r hx;have:=D _ _ hx;split
       ·exact zay
       ·rename_i r' hm;have:=wB hm;exact zav
     ·exact zaV
    split
    ·exact zea
    split
    ·rename_i x hm;exact ⟨fun t r h=>zeT,fun _ h=>Ib hm zfH⟩
    ·rename_i s r hn;have hl:=Fx hn;simp only [length_cons] at hl
     have ar:r.tail.length<=r.length:=by simp
     split
     ·obtain ⟨D,I⟩:=ih (.expr (deep+1)) r.tail trivial;split
      ·exact zar
      ·rename_i a r' hx;have:=D _ _ hx;split
       ·exact zay
       ·rename_i r'' hm;have:=wB hm;exact zav
     split
     ·obtain ⟨D,I⟩:=xE (deep+1) [] r.tail;split
      ·rename_i x hx;exact ⟨fun t r h=>zeT,fun h h0=>I (by simp only [oC,wD,length_cons] at h |-;omega) (hx.trans (by cases h0;rfl))⟩
      ·rename_i a r' hx;have:=D _ _ hx;exact zav
     ·exact zav
  ·intro deep acc ts;unfold PH;rw [rd.args];split
   ·exact zea
   ·by_cases jH:acc=[]
    ·subst jH;simp only [if_true];obtain ⟨D,I⟩:=ih (.expr deep) ts trivial;split
     ·rename_i x hx;exact ⟨fun t r h=>zeT,fun h h0=>I (by simp only [oC,wD] at h |-;omega) (hx.trans (by cases h0;rfl))⟩
     ·rename_i a r hx;have:=D _ _ hx;obtain ⟨h3,h4⟩:=xE deep ([]++[a]) r;exact ⟨fun t r h=>by have:=h3 t r h;omega,fun h=>h4 (by simp only [List.nil_append,wD] at h |-;omega)⟩
    ·rw [ad jH]
     have xq:∀ n,wD acc n=20 * n+1:=by cases acc with | nil=>exact absurd rfl jH | cons=>exact fun _=>rfl
     split
     ·exact zay
     ·rename_i iz hm;have ar:=yu ai hm;obtain ⟨D,I⟩:=ih (.expr deep) iz trivial;split
      ·rename_i x hx;exact ⟨fun t r h=>zeT,fun h h0=>I (by simp only [oC,xq] at h |-;omega) (hx.trans (by cases h0;rfl))⟩
      ·rename_i a r hx;have:=D _ _ hx;obtain ⟨h3,h4⟩:=xE deep (acc++[a]) r
       have Xz:wD (acc++[a]) r.length=20 * r.length+1:=by
        cases acc with
        | nil=>exact absurd rfl jH
        | cons=>rfl
       exact ⟨fun t r h=>by have:=h3 t r h;omega,fun h=>h4 (by rw [Xz] ;simp only [xq] at h;omega)⟩
theorem Ul {e:Int} {f:Nat} {j:sM} {ts:List Tok} {t:T} {r:List Tok} (hj:Jw j) (h:rd e f j ts=.ok (t,r)):r.length<=ts.length:=((Cr e f).1 j ts hj).1 t r h
theorem yx {e:Int} {f:Nat} {j:sM} {ts:List Tok} (hj:Jw j) (h:oC j ts.length<=f):rd e f j ts≠.error be:=((Cr e f).1 j ts hj).2 h
theorem C4 {e:Int} {deep:Nat} {ts:List Tok}:expr e deep ts≠.error be:=yx (j:=.expr deep) trivial (by simp only [oC,mO];omega)
theorem zC {e:Int} {deep:Nat} {ts:List Tok} {t:T} {r:List Tok} (h:expr e deep ts=.ok (t,r)):r.length<=ts.length:=Ul (j:=.expr deep) trivial h
theorem zN {e:Int} {deep:Nat} {a b:ae} {ts r:List Tok} {t:T} (ha:a≠[]) (h:inner e deep a b ts=.ok (t,r)):r.length < ts.length:=by
 unfold inner at h;split at h
 ·cases h
 ·rename_i t1 D;split at h
  ·cases h
  ·rename_i a1 t2 I;split at h
   ·cases h
   ·rename_i t3 h3;cases h;have:=yu ha D;have:=zC I;have:=wB h3;omega
theorem zM {e:Int} {deep:Nat} {a b:ae} {ts:List Tok} {x:Er} (h:inner e deep a b ts=.error x):x≠be:=by
 unfold inner at h;split at h
 ·rename_i D;cases h;exact pL D
 ·split at h
  ·rename_i x2 I;cases h;intro h0;exact C4 (I.trans zeS)
  ·split at h
   ·rename_i h3;cases h;exact pL h3
   ·cases h
theorem FQ {e:Int} {deep:Nat} {ts r:List Tok} {t:ae × T} (h:kW e deep ts=.ok (t,r)):r.length < ts.length:=by
 unfold kW at h;split at h
 ·cases h
 ·rename_i s t1 D;split at h
  ·cases h
  ·rename_i a t2 I;cases h;have:=Fx D;have:=zN ai I;omega
theorem FP {e:Int} {deep:Nat} {ts:List Tok} {x:Er} (h:kW e deep ts=.error x):x≠be:=by
 unfold kW at h;split at h
 ·rename_i D;cases h;exact Ib D
 ·split at h
  ·rename_i I;cases h;exact zM I
  ·cases h
theorem zB {e:Int} {deep:Nat} {ts:List Tok} {x:Er} (h:expr e deep ts=.error x):x≠be:=fun h0=>C4 (h.trans zeS)
theorem MA {e:Int} {deep:Nat} {ts r:List Tok} {t:T} (h:simple e deep ts=.ok (t,r)):r.length < ts.length:=by
 unfold simple at h;split at h
 ·exact zed
 ·rename_i t0 r0;split at h
  ·split at h
   ·cases h
   ·rename_i s a t1 D;cases h;exact FQ D
  ·split at h
   ·cases h
   ·rename_i a t1 D;have:=zC D;split at h
    ·split at h
     ·cases h
     ·rename_i v t2 I;cases h;have:=zN ai I;omega
    ·split at h
     ·cases h
     ·rename_i t2 I;cases h;have:=yu ai I;omega
theorem Mz {e:Int} {deep:Nat} {ts:List Tok} {x:Er} (h:simple e deep ts=.error x):x≠be:=by
 unfold simple at h;split at h
 ·split at h
  ·rename_i D;cases h;exact zB D
  ·cases h;exact Yo
 ·split at h
  ·split at h
   ·rename_i D;cases h;exact FP D
   ·cases h
  ·split at h
   ·rename_i D;cases h;exact zB D
   ·split at h
    ·split at h
     ·rename_i I;cases h;exact zM I
     ·cases h
    ·split at h
     ·rename_i I;cases h;exact pL I
     ·cases h
def PJ (e:Int) (f:Nat) (j:rS) (ts:List Tok):Prop :=
 (∀ t r,rs e f j ts=.ok (t,r)->r.length < ts.length)/\(3 * ts.length+1<=f->rs e f j ts≠.error be)
def PI (e:Int) (f deep:Nat) (acc:List T) (ts:List Tok):Prop :=
 (∀ t r,rs.body e f deep acc ts=.ok (t,r)->r.length < ts.length)/\(3 * ts.length+2<=f->rs.body e f deep acc ts≠.error be)
theorem Cv (e:Int):∀ f,(∀ j ts,PJ e f j ts)/\(∀ deep acc ts,PI e f deep acc ts)
 | 0=>by
  refine ⟨fun j ts=>⟨fun t r h=>?_,fun h=>by omega⟩,fun deep acc ts=>⟨fun t r h=>?_,fun h=>by omega⟩⟩
  ·rw [rs] at h;cases h
  ·rw [rs.body] at h;cases h
 | f+1=>by
  obtain ⟨ih,xE⟩:=Cv e f;constructor
  ·intro j ts;unfold PJ
   cases j with
   | block deep =>
    rw [rs];split
    ·exact zaV
    ·split
     ·exact zay
     ·rename_i r0 hm;have h0:=yu ai hm;obtain ⟨D,I⟩:=xE (deep+1) [] r0;split
      ·exact zct
      ·rename_i l r hx;have:=D _ _ hx;exact zaz
   | stmt deep =>
    rw [rs];split
    ·exact zaV
    ·simp only;split
     ·rename_i hv;have h0:=cW ai hv;split
      ·rename_i x hx;exact ⟨fun t r h=>zeT,fun _ h=>FP hx zfH⟩
      ·rename_i s a t1 hx;have:=FQ hx;exact zaz
     split
     ·rename_i hv
      have h0:ts.tail.length < ts.length:=by
       rcases hv with hv | hv <;> exact cW ai hv
      split
      ·rename_i x hx;exact ⟨fun t r h=>zeT,fun _ h=>zM hx zfH⟩
      ·rename_i c r1 hx;have hc:=zN ai hx;obtain ⟨D,I⟩:=ih (.block (deep+1)) r1;split
       ·rename_i x Dg;exact ⟨fun t r h=>zeT,fun h h0=>I ak (Dg.trans h0)⟩
       ·rename_i b r2 Dg;have hb:=D _ _ Dg;split
        ·split
         ·obtain ⟨h3,h4⟩:=ih (.block (deep+1)) r2.tail
          have ht:r2.tail.length<=r2.length:=by simp
          split
          ·rename_i x LK;exact ⟨fun t r h=>zeT,fun h h0=>h4 ak (LK.trans h0)⟩
          ·rename_i b2 r3 LK;have:=h3 _ _ LK;exact zaz
         ·exact zaz
        ·exact zaz
     split
     ·rename_i hv;have h0:=cW ai hv;split
      ·rename_i x hx;exact ⟨fun t r h=>zeT,fun _ h=>zB hx zfH⟩
      ·rename_i a r1 hx;have:=zC hx;split
       ·exact zay
       ·rename_i r2 hm;have:=wB hm;exact zaz
     ·exact ⟨fun t r h=>MA h,fun _ h=>Mz h rfl⟩
  ·intro deep acc ts;unfold PI;rw [rs.body];split
   ·rename_i hv;have h0:=cW ai hv;exact ⟨fun t r h=>(by cases h;exact h0),fun _ h=>zeT⟩
   ·obtain ⟨D,I⟩:=ih (.stmt deep) ts;split
    ·exact zct
    ·rename_i a r hx;have:=D _ _ hx;obtain ⟨h3,h4⟩:=xE deep (acc++[a]) r;exact ⟨fun t r h=>by have:=h3 t r h;omega,fun h=>h4 ak⟩
theorem Un {e:Int} {f:Nat} {j:rS} {ts:List Tok} {t:T} {r:List Tok} (h:rs e f j ts=.ok (t,r)):r.length < ts.length:=((Cv e f).1 j ts).1 t r h
theorem vS {e:Int} {deep:Nat} {ts:List Tok}:block e deep ts≠.error be:=((Cv e _).1 (.block deep) ts).2 (by simp only [mO];omega)
theorem VV {e:Int} {deep:Nat} {ts:List Tok} {t:T} {r:List Tok} (h:block e deep ts=.ok (t,r)):r.length < ts.length:=Un h
end Go.Xp
namespace Go.Sp
open Go.Xp
structure On (p:RS) (ts:List Tok):Prop where
 code:p.code=0
 le:p.i<=p.l.length
 rest:p.l.drop p.i=ts
 kinds:∀ t∈p.l,t.kind=1\/t.kind=2\/t.kind=3
def bV (p q:RS):Except Er (List Tok)->Prop
 | .ok r=>On q r/\q.l=p.l/\q.e=p.e
 | .error x=>q.code=x.1/\x.1≠0/\q.at_=x.2/\q.l=p.l/\q.e=p.e
def jm {α:Type} (p q:RS) (t:α):Rd α->Prop
 | .ok (t',r)=>t=t'/\bV p q (.ok r)
 | .error x=>bV p q (.error x)
section
variable {p q q':RS} {ts r:List Tok} {x:Er}
theorem bV.err (h:bV p q (.error x)):q.code≠0:=by rw [h.1];exact h.2.1
theorem bV.tr {y:Except Er (List Tok)} (h:bV p q (.ok r)) (k:bV q q' y):bV p q' y:=by
 obtain ⟨_,D,I⟩:=h
 cases y with
 | ok r=>exact ⟨k.1,k.2.1.trans D,k.2.2.trans I⟩
 | error x=>exact ⟨k.1,k.2.1,k.2.2.1,k.2.2.2.1.trans D,k.2.2.2.2.trans I⟩
theorem jm.tr {α:Type} {t:α} {y:Rd α} (h:bV p q (.ok r)) (k:jm q q' t y):jm p q' t y:=by
 cases y with
 | ok r=>obtain ⟨t',r⟩:=r;exact ⟨k.1,h.tr k.2⟩
 | error x=>exact h.tr (y:=.error x) k
theorem On.self (h:On p ts):bV p p (.ok ts):=⟨h,rfl,rfl⟩
theorem On.at (h:On p ts) (k:Nat):p.l[p.i+k]?=ts[k]?:=by rw [<-h.rest,List.getElem?_drop]
theorem On.sign (h:On p ts) (k:Nat):p.sign k=Go.Xp.sign ts k:=by
 unfold RS.sign Go.Xp.sign;rw [ah h.code,h.at]
 all_goals (cases ts[k]? <;> rfl)
theorem On.place (h:On p ts):p.place=Go.Xp.place p.e ts:=by
 have h0:=h.at 0;unfold RS.place;rw [Nat.add_zero] at h0;rw [h0]
 cases ts with
 | nil=>rfl
 | cons t r=>rfl
theorem On.next {t:Tok} (h:On p (t::r)):bV p p.next (.ok r):=by
 have D:p.i < p.l.length:=by
  have:=congrArg List.length h.rest;simp at this;omega
 refine ⟨⟨h.code,D,?_,h.kinds⟩,rfl,rfl⟩;show p.l.drop (p.i+1)=r;rw [<-List.tail_drop,h.rest];rfl
theorem On.fail (h:On p ts) (c a:Int) (hc:c≠0):bV p (p.fail c a) (.error (c,a)):=by
 unfold RS.fail;rw [ah h.code];exact ⟨rfl,hc,rfl,rfl,rfl⟩
theorem sU (h:p.code≠0) (c a:Int):p.fail c a=p:=by unfold RS.fail;rw [ad h]
theorem lu (h:p.code≠0) (k:Nat):p.sign k=[]:=by unfold RS.sign;rw [ad h]
theorem gC (h:p.code≠0) {s:ae} (hs:s≠[]):p.aI s=p:=by
 unfold RS.aI;rw [lu h,ad (fun e=>hs e.symm),sU h]
theorem zV (h:p.code≠0):p.name=([],p):=by unfold RS.name;rw [ad h]
theorem qF (h:p.code≠0) (d:Nat):p.deep d=p:=by unfold RS.deep;split <;> simp [sU h]
theorem dC {s:ae} (hs:s≠[]) (h:Go.Xp.sign ts 0=s):∃ t,ts=t::ts.tail/\t.kind=3/\t.s=s:=by
 cases ts with
 | nil=>exact absurd h.symm hs
 | cons t r =>
  refine ⟨t,rfl,?_⟩;simp only [Go.Xp.sign,List.getElem?_cons_zero,df] at h;split at h
  ·exact ⟨by assumption,h⟩
  ·exact absurd h.symm hs
theorem On.aI (h:On p ts) {s:ae} (hs:s≠[]):bV p (p.aI s) (Go.Xp.aI p.e s ts):=by
 unfold RS.aI Go.Xp.aI;rw [h.sign]
 by_cases h0:Go.Xp.sign ts 0=s
 ·rw [ah h0,ah h0];obtain ⟨t,ht,_⟩:=dC hs h0;rw [ht] at h
  exact h.next
 ·rw [ad h0,ad h0,h.place];exact h.fail 7 _ ai
theorem On.name (h:On p ts):jm p p.name.2 p.name.1 (Go.Xp.name p.e ts)\/∃ x,Go.Xp.name p.e ts=.error x/\bV p p.name.2 (.error x):=by
 have h0:=h.at 0;rw [Nat.add_zero] at h0;unfold RS.name;rw [ah h.code,h0]
 cases ts with
 | nil=>exact .inr ⟨_,rfl,by rw [h.place];exact h.fail 7 _ ai⟩
 | cons t r =>
  simp only [List.getElem?_cons_zero,Go.Xp.name];split
  ·split
   ·exact .inr ⟨_,rfl,h.fail 8 _ ai⟩
   ·exact .inl ⟨rfl,h.next⟩
  ·refine .inr ⟨_,rfl,?_⟩;have:p.place=t.at_:=h.place;rw [this];exact h.fail 7 _ ai
end
theorem AX {p:RS} (h:p.code≠0):(∀ g d,1<=g->mE g (.operand d) p=some (T.zero,p))/\(∀ g k d out,1<=g->mE g (.loop k d out) p=some (out,p))/\(∀ n g k d,k+n=9->n+2<=g->mE g (.level k d) p=some (T.zero,p)):=by
 have D:∀ g d,1<=g->mE g (.operand d) p=some (T.zero,p):=by
  intro g d hg
  cases g with
  | zero=>omega
  | succ g=>rw [mE];simp [qF h,h,sU h]
 have I:∀ g k d out,1<=g->mE g (.loop k d out) p=some (out,p):=by
  intro g k d out hg
  cases g with
  | zero=>omega
  | succ g=>rw [mE];simp [h]
 refine ⟨D,I,fun n=>?_⟩
 induction n with
 | zero =>
  intro g k d hk hg
  cases g with
  | zero=>omega
  | succ g=>rw [mE,ah ak];exact D g _ ak
 | succ n ih =>
  intro g k d hk hg
  cases g with
  | zero=>omega
  | succ g =>
   rw [mE,ad ak,ih g (k+1) d ak ak];exact I g _ _ _ ak
theorem TV {p:RS} (h:p.code≠0) {g d:Nat} (hg:12<=g):mE g (.expr d) p=some (T.zero,p):=by
 cases g with
 | zero=>omega
 | succ g=>rw [mE,qF h];exact (AX h).2.2 9 g 0 d rfl ak
def KF (f:Nat):Nat:=2 * f+20
structure JE (f:Nat):Prop where
 expr:∀ d ts p,On p ts->rd p.e f (.expr d) ts≠.error be->∃ t q,(∀ g,KF f<=g->mE g (.expr d) p=some (t,q))/\jm p q t (rd p.e f (.expr d) ts)
 level:∀ k d ts p,k<=9->On p ts->rd p.e f (.level k (d+1)) ts≠.error be->∃ t q,(∀ g,KF f<=g->mE g (.level k d) p=some (t,q))/\jm p q t (rd p.e f (.level k (d+1)) ts)
 loop:∀ k d out ts p,k < 9->On p ts->rd p.e f (.loop k (d+1) out) ts≠.error be->∃ t q,(∀ g,KF f<=g->mE g (.loop k d out) p=some (t,q))/\jm p q t (rd p.e f (.loop k (d+1) out) ts)
 operand:∀ d ts p,On p ts->rd p.e f (.operand d) ts≠.error be->∃ t q,(∀ g,KF f<=g->mE g (.operand d) p=some (t,q))/\jm p q t (rd p.e f (.operand d) ts)
 args:∀ d acc ts p,acc≠[]->On p ts->rd.args p.e f d acc ts≠.error be->∃ t q,(∀ g,KF f<=g->pK g d acc p=some (t,q))/\jm p q t (rd.args p.e f d acc ts)
 args0:∀ d ts p,On p ts->rd.args p.e f d [] ts≠.error be->∃ t q,(∀ g,KF f<=g->mL g d p=some (t,q))/\jm p q t (rd.args p.e f d [] ts)
theorem A4:∀ k,(levels.getD k []).contains []=false:=by
 intro k
 have h:∀ l∈levels,l.contains ([]:ae)=false:=by decide
 rw [List.getD_eq_getElem?_getD]
 cases hk:levels[k]? with
 | none=>rfl
 | some l=>exact h l (bM hk)
theorem up {f g:Nat} (h:KF (f+1)<=g):∃ g',g=g'+1/\KF f+1<=g':=⟨g - 1,by unfold KF at h;omega,by unfold KF at *;omega⟩
theorem je (f:Nat):JE f:=by
 induction f with
 | zero =>
  refine ⟨fun d ts p _ h=>absurd ?_ h,fun k d ts p _ _ h=>absurd ?_ h,fun k d out ts p _ _ h=>absurd ?_ h,fun d ts p _ h=>absurd ?_ h,fun d acc ts p _ _ h=>absurd ?_ h,fun d ts p _ h=>absurd ?_ h⟩ <;> simp [rd,rd.args]
 | succ f C =>
  refine ⟨fun d ts p hp h=>?_,fun k d ts p hk hp h=>?_,fun k d out ts p hk hp h=>?_,fun d ts p hp h=>?_,fun d acc ts p jH hp h=>?_,fun d ts p hp h=>?_⟩
  ·rw [rd] at h |-
   by_cases hd:d > 60
   ·rw [ah hd] at h |-;have hf:=hp.fail 9 p.place ai;refine ⟨T.zero,p.fail 9 p.place,fun g hg=>?_,by rw [<-hp.place];exact hf⟩;obtain ⟨g,rfl,hg⟩:=up hg;rw [mE];unfold RS.deep;rw [ah hd];exact (AX hf.err).2.2 9 g 0 d rfl zfg
   ·rw [ad hd] at h |-;obtain ⟨t,q,D,I⟩:=C.level 0 d ts p ak hp h;refine ⟨t,q,fun g hg=>?_,I⟩;obtain ⟨g,rfl,hg⟩:=up hg;rw [mE];unfold RS.deep;rw [ad hd];exact D g ak
  ·rw [rd] at h |-
   by_cases h9:k=9
   ·rw [ah h9] at h |-;obtain ⟨t,q,D,I⟩:=C.operand (d+1) ts p hp h;refine ⟨t,q,fun g hg=>?_,I⟩;obtain ⟨g,rfl,hg⟩:=up hg;rw [mE,ah h9];exact D g ak
   ·rw [ad h9] at h |-
    cases he:rd p.e f (.level (k+1) (d+1)) ts with
    | error x =>
     rw [he] at h
     have hx:x≠be:=fun h0=>h zeS
     obtain ⟨t,q,D,I⟩:=C.level (k+1) d ts p ak hp zeK;rw [he] at I;refine ⟨t,q,fun g hg=>?_,I⟩;obtain ⟨g,rfl,hg⟩:=up hg;rw [mE,ad h9,D g ak];exact zeh
    | ok r =>
     obtain ⟨t',r⟩:=r;rw [he] at h;simp only at h |-;obtain ⟨t,q,D,I⟩:=C.level (k+1) d ts p ak hp zeN;rw [he] at I;obtain ⟨rfl,I⟩:=I;rw [<-I.2.2] at h |-;obtain ⟨t3,q3,h3,h4⟩:=C.loop k d t r q ak I.1 h;refine ⟨t3,q3,fun g hg=>?_,jm.tr I h4⟩;obtain ⟨g,rfl,hg⟩:=up hg;rw [mE,ad h9,D g ak];exact h3 g ak
  ·cases ts with
   | nil =>
    rw [rd];refine ⟨out,p,fun g hg=>?_,rfl,hp.self⟩;obtain ⟨g,rfl,hg⟩:=up hg;rw [mE,ad];rw [hp.sign];rintro ⟨_,h0⟩;rw [show sign ([]:List Tok) 0=[] from rfl,A4] at h0;cases h0
   | cons t r =>
    rw [rd] at h |-;have hs:p.sign 0=df t:=hp.sign 0
    by_cases hc:t.kind=3/\t.s∈levels.getD k []
    ·rw [ah hc] at h |-
     have hn:=hp.next
     have td:p.l[p.i]?=some t:=hp.at 0;have nj:p.code=0/\(levels.getD k []).contains (p.sign 0)=true:=⟨hp.code,by rw [hs];unfold df;rw [ah hc.1];simpa using hc.2⟩;rw [show p.e=p.next.e from rfl] at h |-
     cases he:rd p.next.e f (.level (k+1) (d+1)) r with
     | error x =>
      rw [he] at h
      have hx:x≠be:=fun h0=>h zeS
      obtain ⟨b,q,D,I⟩:=C.level (k+1) d r p.next ak hn.1 zeK
      rw [he] at I;refine ⟨one 6 t.at_ t.s [out,b],q,fun g hg=>?_,hn.tr (y:=.error x) I⟩;obtain ⟨g,rfl,hg⟩:=up hg;rw [mE,ah nj,td];simp only;rw [D g ak];exact zeh
     | ok x =>
      obtain ⟨b',r'⟩:=x;rw [he] at h;simp only at h |-
      obtain ⟨b,q,D,I⟩:=C.level (k+1) d r p.next ak hn.1 zeN
      rw [he] at I;obtain ⟨rfl,I⟩:=I;rw [<-I.2.2] at h |-;obtain ⟨t3,q3,h3,h4⟩:=C.loop k d (one 6 t.at_ t.s [out,b]) r' q hk I.1 h;refine ⟨t3,q3,fun g hg=>?_,jm.tr (hn.tr I) h4⟩;obtain ⟨g,rfl,hg⟩:=up hg;rw [mE,ah nj,td];simp only;rw [D g ak];exact h3 g ak
    ·rw [ad hc];refine ⟨out,p,fun g hg=>?_,rfl,hp.self⟩;obtain ⟨g,rfl,hg⟩:=up hg;rw [mE,ad];rintro ⟨_,h0⟩;rw [hs] at h0;unfold df at h0;split at h0
     ·rename_i h3;exact hc ⟨h3,by simpa using h0⟩
     ·rw [A4] at h0;cases h0
  ·rw [rd.eq_def] at h |-;simp only at h |-
   by_cases hd:d > 60
   ·rw [ah hd] at h |-;have hf:=hp.fail 9 p.place ai;refine ⟨T.zero,p.fail 9 p.place,fun g hg=>?_,by rw [<-hp.place];exact hf⟩;obtain ⟨g,rfl,hg⟩:=up hg;rw [mE];unfold RS.deep;rw [ah hd];simp [hf.err,sU hf.err]
   ·rw [ad hd] at h |-
    have dP:p.deep d=p:=by unfold RS.deep;rw [ad hd]
    cases ts with
    | nil =>
     simp only;have h0:p.l[p.i]?=none:=hp.at 0;refine ⟨T.zero,p.fail 7 p.place,fun g hg=>?_,?_⟩
     ·obtain ⟨g,rfl,hg⟩:=up hg;rw [mE];simp [dP,hp.code,h0]
     ·rw [hp.place];exact hp.fail 7 _ ai
    | cons t r =>
     simp only at h |-;have td:p.l[p.i]?=some t:=hp.at 0
     have hn:=hp.next
     by_cases h3:t.kind=3
     ·rw [ah h3] at h |-
      have AD:¬ t.kind=1:=by omega
      have Lg:¬ t.kind=2:=by omega
      by_cases hu:t.s=[45]\/t.s=[33]\/t.s=[126]
      ·rw [ah hu] at h |-;rw [show p.e=p.next.e from rfl] at h |-
       cases he:rd p.next.e f (.operand (d+1)) r with
       | error x =>
        rw [he] at h
        have hx:x≠be:=fun h0=>h zeS
        obtain ⟨b,q,D,I⟩:=C.operand (d+1) r p.next hn.1 zeK
        rw [he] at I;refine ⟨one 5 t.at_ t.s [b],q,fun g hg=>?_,hn.tr (y:=.error x) I⟩;exact zck
       | ok x =>
        obtain ⟨b',r'⟩:=x;rw [he] at h;simp only at h |-
        obtain ⟨b,q,D,I⟩:=C.operand (d+1) r p.next hn.1 zeN
        rw [he] at I;obtain ⟨rfl,I⟩:=I;refine ⟨one 5 t.at_ t.s [b],q,fun g hg=>?_,rfl,hn.tr I⟩;exact zck
      ·rw [ad hu] at h |-
       by_cases hb:t.s=[40]
       ·rw [ah hb] at h |-;rw [show p.e=p.next.e from rfl] at h |-
        cases he:rd p.next.e f (.expr (d+1)) r with
        | error x =>
         rw [he] at h
         have hx:x≠be:=fun h0=>h zeS
         obtain ⟨b,q,D,I⟩:=C.expr (d+1) r p.next hn.1 zeK
         rw [he] at I;refine ⟨b,q.aI [41],fun g hg=>?_,?_⟩
         ·exact zcc
         ·rw [gC (bV.err I) ai];exact hn.tr (y:=.error x) I
        | ok x =>
         obtain ⟨b',r'⟩:=x;rw [he] at h;simp only at h |-
         obtain ⟨b,q,D,I⟩:=C.expr (d+1) r p.next hn.1 zeN
         rw [he] at I;obtain ⟨rfl,I⟩:=I;have hm:=I.1.aI (s:=[41]) ai;have cp:=(hn.tr I).tr hm;rw [I.2.2] at cp;refine ⟨b,q.aI [41],fun g hg=>?_,?_⟩
         ·exact zcc
         ·cases u7:aI p.next.e [41] r' with
          | error x=>rw [u7] at cp;exact cp
          | ok r2=>exact zc7
       ·rw [ad hb] at h |-;refine ⟨T.zero,p.fail 7 t.at_,fun g hg=>?_,hp.fail 7 _ ai⟩;obtain ⟨g,rfl,hg⟩:=up hg;rw [mE];simp only [dP,hp.code,td,if_true,ad AD,ad Lg,ad hu,ad hb]
     ·rw [ad h3] at h |-
      by_cases D:t.kind=1
      ·rw [ah D];refine ⟨_,p.next,fun g hg=>?_,rfl,hn⟩;obtain ⟨g,rfl,hg⟩:=up hg;rw [mE];simp only [dP,hp.code,td,if_true,ah D]
      ·rw [ad D] at h |-
       by_cases I:t.kind=2
       ·by_cases hlen:t.s.length > 12
        ·have cL:name p.e (t::r)=.error (8,t.at_):=by simp [name,I,hlen]
         rw [cL] at h |-;have hf:=hp.fail 8 t.at_ ai;refine ⟨one 2 t.at_ [] [],p.fail 8 t.at_,fun g hg=>?_,hf⟩;obtain ⟨g,rfl,hg⟩:=up hg
         have dr:p.name=([],p.fail 8 t.at_):=by unfold RS.name;simp [hp.code,td,I,hlen]
         rw [mE];simp only [dP,hp.code,td,if_true,ad D,ah I,dr];obtain ⟨g,rfl⟩:∃ g',g=g'+1:=⟨g - 1,by omega⟩;rw [mE,ad (by rw [lu hf.err];decide),ad (by rw [lu hf.err];decide)]
        ·have cL:name p.e (t::r)=.ok (t.s,r):=by simp [name,I,hlen]
         have dr:p.name=(t.s,p.next):=by unfold RS.name;simp [hp.code,td,I,hlen]
         rw [cL] at h |-;simp only at h |-
         have dE:p.next.sign 0=sign r 0:=hn.1.sign 0
         have key:∀ (t':T) (q:RS),(∀ g,KF f<=g->mE (g+1) (.named t.at_ t.s d) p.next=some (t',q))->∀ g,KF (f+1)<=g->mE g (.operand d) p=some (t',q):=by
          intro t' q hk g hg;obtain ⟨g,rfl,hg⟩:=up hg;rw [mE];simp only [dP,hp.code,td,if_true,ad D,ah I,dr];exact zdD
         by_cases hb:sign r 0=[91]
         ·rw [ah hb] at h |-;obtain ⟨tb,AQ,_⟩:=dC ai hb;have bL:=hn.1;rw [AQ] at bL
          have bL:=hn.tr bL.next
          rw [show p.e=p.next.next.e from rfl] at h |-
          cases he:rd p.next.next.e f (.expr (d+1)) r.tail with
          | error x =>
           rw [he] at h
           have hx:x≠be:=fun h0=>h zeS
           obtain ⟨b,q,k1,k2⟩:=C.expr (d+1) r.tail p.next.next bL.1 zeK
           rw [he] at k2;refine ⟨one 3 t.at_ t.s [b],q.aI [93],key _ _ fun g hg=>?_,?_⟩
           ·rw [mE,ah zff,k1 g hg]
           ·rw [gC (bV.err k2) ai];exact bL.tr (y:=.error x) k2
          | ok x =>
           obtain ⟨b',r'⟩:=x;rw [he] at h;simp only at h |-
           obtain ⟨b,q,k1,k2⟩:=C.expr (d+1) r.tail p.next.next bL.1 zeN
           rw [he] at k2;obtain ⟨rfl,k2⟩:=k2;have hm:=k2.1.aI (s:=[93]) ai;have cp:=(bL.tr k2).tr hm;rw [k2.2.2] at cp;refine ⟨one 3 t.at_ t.s [b],q.aI [93],key _ _ fun g hg=>?_,?_⟩
           ·rw [mE,ah zff,k1 g hg]
           ·cases u7:aI p.next.next.e [93] r' with
            | error x=>rw [u7] at cp;exact cp
            | ok r2=>exact zc7
         ·rw [ad hb] at h |-
          by_cases hc:sign r 0=[40]
          ·rw [ah hc] at h |-;obtain ⟨tb,AQ,_⟩:=dC ai hc;have bL:=hn.1;rw [AQ] at bL
           have bL:=hn.tr bL.next
           rw [show p.e=p.next.next.e from rfl] at h |-
           cases he:rd.args p.next.next.e f (d+1) [] r.tail with
           | error x =>
            rw [he] at h
            have hx:x≠be:=fun h0=>h zeS
            obtain ⟨b,q,k1,k2⟩:=C.args0 (d+1) r.tail p.next.next bL.1 zeK
            rw [he] at k2;refine ⟨one 4 t.at_ t.s b,q,key _ _ fun g hg=>?_,bL.tr (y:=.error x) k2⟩;exact zdU
           | ok x =>
            obtain ⟨b',r'⟩:=x;rw [he] at h
            obtain ⟨b,q,k1,k2⟩:=C.args0 (d+1) r.tail p.next.next bL.1 zeN
            rw [he] at k2;obtain ⟨rfl,k2⟩:=k2;refine ⟨one 4 t.at_ t.s b,q,key _ _ fun g hg=>?_,rfl,bL.tr k2⟩;exact zdU
          ·rw [ad hc] at h |-;refine ⟨one 2 t.at_ t.s [],p.next,key _ _ fun g hg=>?_,rfl,hn⟩;rw [mE,ad zff,ad (by rw [dE];exact hc)]
       ·have cL:name p.e (t::r)=.error (7,t.at_):=by simp [name,I]
        rw [cL] at h |-;have:=hp.kinds t (bM td);omega
  ·rw [rd.args] at h |-;have dE:p.sign 0=sign ts 0:=hp.sign 0
   by_cases hb:sign ts 0=[41]
   ·rw [ah hb];have hm:=hp.aI (s:=[41]) ai;unfold Go.Xp.aI at hm;rw [ah hb] at hm;refine ⟨acc,p.aI [41],fun g hg=>?_,rfl,hm⟩;obtain ⟨g,rfl,hg⟩:=up hg;rw [pK,ad (by rw [dE,hb];decide)]
   ·rw [ad hb,ad jH] at h |-
    by_cases hc:sign ts 0=[44]
    ·have dq:Go.Xp.aI p.e [44] ts=.ok ts.tail:=by unfold Go.Xp.aI;rw [ah hc]
     rw [dq] at h |-;simp only at h |-;obtain ⟨tb,AQ,_⟩:=dC ai hc;have hn:=hp;rw [AQ] at hn
     have hn:=hn.next
     rw [show p.e=p.next.e from rfl] at h |-
     cases he:rd p.next.e f (.expr d) ts.tail with
     | error x =>
      rw [he] at h
      have hx:x≠be:=fun h0=>h zeS
      obtain ⟨b,q,k1,k2⟩:=C.expr d ts.tail p.next hn.1 zeK
      rw [he] at k2;refine ⟨acc++[b],q,fun g hg=>?_,hn.tr (y:=.error x) k2⟩;obtain ⟨g,rfl,hg⟩:=up hg;rw [pK,ah (by rw [dE,hc]),k1 g ak];exact zbM
     | ok x =>
      obtain ⟨b',r'⟩:=x;rw [he] at h;simp only at h |-
      obtain ⟨b,q,k1,k2⟩:=C.expr d ts.tail p.next hn.1 zeN
      rw [he] at k2;obtain ⟨rfl,k2⟩:=k2;rw [<-k2.2.2] at h |-;obtain ⟨t3,q3,h3,h4⟩:=C.args d (acc++[b]) r' q zeL k2.1 h;refine ⟨t3,q3,fun g hg=>?_,jm.tr (hn.tr k2) h4⟩;obtain ⟨g,rfl,hg⟩:=up hg;rw [pK,ah (by rw [dE,hc]),k1 g ak];exact h3 g ak
    ·have dq:Go.Xp.aI p.e [44] ts=.error (7,place p.e ts):=by unfold Go.Xp.aI;rw [ad hc]
     rw [dq];have hm:=hp.aI (s:=[41]) ai;unfold Go.Xp.aI at hm;rw [ad hb] at hm;refine ⟨acc,p.aI [41],fun g hg=>?_,hm⟩;obtain ⟨g,rfl,hg⟩:=up hg;rw [pK,ad (by rw [dE];exact hc)]
  ·rw [rd.args] at h |-;have dE:p.sign 0=sign ts 0:=hp.sign 0
   by_cases hb:sign ts 0=[41]
   ·rw [ah hb];have hm:=hp.aI (s:=[41]) ai;unfold Go.Xp.aI at hm;rw [ah hb] at hm;refine ⟨[],p.aI [41],fun g hg=>?_,rfl,hm⟩;obtain ⟨g,rfl,hg⟩:=up hg;rw [mL,ah (by rw [dE,hb])]
   ·rw [ad hb,ah rfl] at h |-;simp only at h |-
    cases he:rd p.e f (.expr d) ts with
    | error x =>
     rw [he] at h
     have hx:x≠be:=fun h0=>h zeS
     obtain ⟨b,q,k1,k2⟩:=C.expr d ts p hp zeK;rw [he] at k2;refine ⟨[b],q,fun g hg=>?_,k2⟩;obtain ⟨g,rfl,hg⟩:=up hg;rw [mL,ad zff,k1 g ak];exact zbM
    | ok x =>
     obtain ⟨b',r'⟩:=x;rw [he] at h;simp only at h |-;obtain ⟨b,q,k1,k2⟩:=C.expr d ts p hp zeN;rw [he] at k2;obtain ⟨rfl,k2⟩:=k2;rw [<-k2.2.2] at h |-;obtain ⟨t3,q3,h3,h4⟩:=C.args d ([]++[b]) r' q zeL k2.1 h;refine ⟨t3,q3,fun g hg=>?_,jm.tr k2 h4⟩;obtain ⟨g,rfl,hg⟩:=up hg;rw [mL,ad zff,k1 g ak];exact h3 g ak
end Go.Sp
