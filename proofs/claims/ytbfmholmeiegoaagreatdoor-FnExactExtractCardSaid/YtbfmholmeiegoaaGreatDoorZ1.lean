/- Part 1 of proofs that are told in their last texts. -/
open List (cons_append getElem?_append getElem?_cons_zero getElem?_eq_none length_cons mem_map nil_append tail_cons)
set_option linter.unusedVariables false
set_option linter.unusedSimpArgs false
set_option maxRecDepth 100000
namespace Go
theorem zaa {A B:Prop} (h:B) (s:PLift B->A:=by intro hQ;refine jY ?_;refine GL.wk (Wk.freeze (i:=0) rfl rfl rfl (aO _)) ?_;refine GL.wk (Wk.freeze (i:=1) rfl rfl rfl (aO _)) ?_;refine GN (by simp only [pg,oH];rfl) ?_;refine D ?_;exact hQ.1):A:=s ⟨h⟩
theorem zab {A B:Prop} (h:B) (s:PLift B->A:=by intro hQ;refine jZ ?_;refine GL.qV rfl rfl rfl rfl rfl rfl rfl ?_;refine bL ?_;refine D ?_;exact hQ.1):A:=s ⟨h⟩
theorem zac {A:Prop} (s:A:=by refine mg ?_;refine D ?_;exact ⟨k+1,⟨_,_,Wk.aC ak,_,Z,rfl,rfl,aj,cq⟩,by show l.length - (k+1) < l.length - k;omega⟩):A:=s
theorem zad {A B:Prop} (h:B) (s:PLift B->A:=by intro hQ;refine V [0] ht ?_;refine V [0] eH ?_;refine V [0] I ?_;refine V [0] M ?_;exact hQ.1):A:=s ⟨h⟩
theorem zae {A:Prop} (s:A:=by refine ah func178 ntmps178 ?_;refine V [] hS ?_;refine GL.borrow hN (fun B K β w l hI hF=>pS (A:=[_,_,_]) (C:=[]) hI hF rfl rfl rfl) ?_;refine bL ?_;exact od):A:=s
theorem zaf {A:Prop} (s:A:=by generalize tok p 0=tk at *;refine aL (aE 0 45 (.a 45 (.q 46 .nil))) ?_;refine bo ?_;exact jw):A:=s
theorem zag {A:Prop} (s:A:=by refine V [] hc ?_;refine cH ?_;exact ⟨by first | rfl | (rw [aX];rfl),rfl⟩):A:=s
theorem zah {A:Prop} (s:A:=by refine D ?_;have hc:=fc s hs;rw [h0] at hc;refine V [] hc ?_;exact al):A:=s
theorem zai {A:Prop} (s:A:=by exact ⟨rfl,rfl⟩):A:=s
theorem zaj {A:Prop} (s:A:=by obtain ⟨⟨kk,aa,vv,ss,ks⟩,l⟩:=t;obtain ⟨I,M,h3,hl⟩:=fj ht;simp only at I M h3;subst I M h3;obtain ⟨x,rfl,hx⟩:=yk hl;simp only [E.ok,aH] at ho;rw [E.tree,wt] at hb;simp only [fL,lim] at hb;have hc:=C x ho.2 hx (by unfold lim;omega);have hle:=(E.len a ho.2).2;have hr:(aQ [x])[0]?=some (cT x):=db rfl;rw [E.full];generalize a.full=y at *;simp only [cT,T.n,T.kids] at |-;refine ah func228 ntmps228 ?_;refine aL (aE 0 8 (.a 8 (aE 9 3 .nil))) ?_;refine ao ?_;refine aI [] hc ?_;exact ax):A:=s
theorem zak {A B:Prop} (h:B) (s:PLift B->A:=by intro hQ;refine cx ?_;refine D ?_;exact hQ.1):A:=s ⟨h⟩
theorem zal {A B:Prop} (h:B) (s:PLift B->A:=by intro hQ;refine D ?_;refine GL.gh 1 rfl rfl rfl rfl rfl rfl rfl rfl bc ju ?_;exact hQ.1):A:=s ⟨h⟩
theorem zam {A:Prop} (s:A:=by refine D ?_;refine GL.gh 0 rfl rfl rfl rfl rfl rfl rfl rfl bc ju ?_;intro a2 c2;refine bM ?_;rw [lF];refine D ?_;exact ⟨_,_,Wk.aC ak,a2,c2,rfl,rfl⟩):A:=s
theorem zan {A:Prop} (s:A:=by obtain ⟨⟨kk,aa,vv,ss,ks⟩,l⟩:=t;obtain ⟨I,M,h3,hl⟩:=fj ht;simp only at I M h3;subst I M h3;obtain ⟨x0,rfl,ru⟩:=yk hl;simp only [S.ok] at ho;rw [S.tree,wt] at hb;simp only [fL,lim] at hb;have rU:=sd b (a:=a) ho (by unfold lim;omega) x0 ru;have xq:=kD b a ho;have tW:(aQ [x0])[0]?=some (cT x0):=db rfl;rw [S.bB];generalize a.out b=y0 at *;simp only [cT,T.n,T.kids];refine ah func151 ntmps151 ?_;refine V [] rU ?_;exact al):A:=s
theorem zao {A:Prop} (s:A:=by simp only [List.map_cons,map_nil,getD_cons_zero,getD_cons_succ,aM,length_cons,length_nil] at hlen |-;have pj:=dY b (by rw [ha];simp) G;generalize tx a=x at *;generalize oQ tx inl d b=y at *;clear dY eW ih;generalize cw [a,b]=rows at *;refine c8 func197 ntmps197 ?_;refine zaa ?_;refine aL (.q 0 (aE 4 8 (.a 1 (.q 2 (.q 3 (.a 12 (.q 13 (.q 14 .nil)))))))) ?_;refine ao ?_;refine pO [] h0 ?_;refine ao ?_;refine aI [] pj ?_;exact ax):A:=s
theorem zap {A:Prop} (s:A:=by generalize l[k]=x at *;refine D ?_;refine aL (aE 0 8 (.a 8 (.q 9 .nil))) ?_;refine ao ?_;refine aI [] hc ?_;refine D ?_;exact ⟨k+1,⟨_,_,Wk.aC ak,rfl,rfl,aj⟩,by show l.length - (k+1) < l.length - k;omega⟩):A:=s
theorem zaq {A:Prop} (s:A:=by rw [S.tk] at ht;obtain ⟨t,r,rfl,I,_⟩:=map_cons ht;exact ⟨t,r,rfl,fun rest=>by rw [uY I];decide⟩):A:=s
theorem zar {A:Prop} (s:A:=by simp only [aM,length_cons,length_nil];omega):A:=s
theorem zas {A B:Prop} (h:B) (s:PLift B->A:=by intro hQ;refine V [0] (dM p 0 hp aP) ?_;refine V [0] (dL p.next [40] dK aP) ?_;refine V [0] (Ae (d+1) _ e p1 sH G he) ?_;refine V [0] (dL p1 [41] lE aP) ?_;refine aL (aE 0 4 (.a 4 (.a 5 (.q 6 .nil)))) ?_;refine ao ?_;exact hQ.1):A:=s ⟨h⟩
theorem zat {A:Prop} (s:A:=by rename_i x hx;exact ⟨fun t r h=>(by cases h),fun h h0=>M (by simp only [ql,length_cons] at h |-;omega) (hx.trans h0)⟩):A:=s
theorem zau {A:Prop} (s:A:=by exact ⟨_,_,Wk.aC ak,_,_,rfl,rfl,aO _,by rw [hm];rfl⟩):A:=s
theorem zav {A:Prop} (s:A:=by refine ah func180 ntmps180 ?_;refine V [] hL ?_;exact al):A:=s
theorem zax {A B:Prop} (h:B) (s:PLift B->A:=by intro hQ;refine cI ?_;refine D ?_;exact hQ.1):A:=s ⟨h⟩
theorem zay {A B:Prop} (h:B) (s:PLift B->A:=by intro hQ;refine ea ?_;refine ao ?_;exact hQ.1):A:=s ⟨h⟩
theorem zaz {A:Prop} (s:A:=by exact ⟨_,_,EV,⟨Eu,rfl,hq⟩,.pass (x:=.inLoop c) rfl (fun _ _=>.inl (by simp)) zI⟩):A:=s
theorem zaA {A:Prop} (s:A:=by exact ⟨fun t r h=>(by cases h;simp only [length_cons];omega),fun _ h=>(by cases h)⟩):A:=s
theorem zaB {A:Prop} (s:A:=by obtain ⟨r,jj,eh⟩:=List.mem_flatten.1 (br h7);exact (h4 r jj).2 g eh):A:=s
theorem zaC {A:Prop} (s:A:=by subst nA;rw [mP] at hR;subst hR;refine cm ?_;refine D ?_;refine jc ?_;exact tI 0 rfl cJ rfl (fun x hx=>by rw [oO hx];rfl) ⟨_,⟨_,_,by rw [hm]⟩,rfl,rfl⟩):A:=s
theorem zaD {A:Prop} (s:A:=by rename_i x hm;exact ⟨fun t r h=>(by cases h),fun _ h=>rz hm (by cases h;rfl)⟩):A:=s
theorem zaE {A:Prop} (s:A:=by exact ⟨fun h=>absurd h (by simp),fun h=>absurd h (by simp),E.wf a,trivial⟩):A:=s
theorem zaF {A:Prop} (s:A:=by refine cm ?_;exact ax):A:=s
theorem zaG {A:Prop} (s:A:=by exact ⟨fun t r h=>(by cases h;omega),fun _ h=>(by cases h)⟩):A:=s
theorem zaH {A B:Prop} (h:B) (s:PLift B->A:=by intro hQ;refine V [] hB ?_;refine V [] hC ?_;refine V [] hL ?_;refine V [] hX ?_;refine V [] hP ?_;exact hQ.1):A:=s ⟨h⟩
theorem zaI {A:Prop} (s:A:=by have h0:=eW 0 a (by rw [ha];rfl);rw [ha] at hlen |-;rw [ha] at h0;simp only [List.map_cons,map_nil,getD_cons_zero,aM,length_cons,length_nil] at hlen |-;generalize tx a=x at *;generalize cw [a]=rows at *;refine c8 func197 ntmps197 ?_;refine zaa ?_;refine pM [] h0 ?_;exact ax):A:=s
theorem zaJ {A:Prop} (s:A:=by simp only [fL,aM,length_cons,length_nil];omega):A:=s
theorem zaK {A:Prop} (s:A:=by refine GL.gh 2 rfl rfl rfl rfl rfl rfl rfl rfl bc ju ?_;intro a c;refine bM ?_;rw [zN,rm];refine D ?_;refine zak ?_;refine V [0] (fO p2 [59] (hx { st with globals:=st.globals++[s] } { h with aG:=a,cG:=c }) et) ?_;refine cM ?_;exact ⟨rfl,{ h with aG:=a,cG:=c },rfl⟩):A:=s
theorem zaL {A:Prop} (s:A:=by unfold fX at vm fK;generalize S.dz (E.out b) [123,32] p++[125]=y1 at *;simp only [cT,T.n,T.kids];refine ah func151 ntmps151 ?_;refine aL (aE 0 5 (aE 8 5 (.a 5 (.q 6 (.q 7 (.a 13 (.q 14 (.q 15 .nil)))))))) ?_;refine ao ?_;refine aI [] rU ?_;refine aI [] vm ?_;exact ax):A:=s
theorem zaM {A B:Prop} (h:B) (s:PLift B->A:=by intro hQ;refine bM ?_;refine D ?_;exact hQ.1):A:=s ⟨h⟩
theorem zaN {A B:Prop} (h:B) (s:PLift B->A:=by intro hQ;refine D ?_;refine aL (aE 0 7 (.a 7 (aE 8 4 (.q 13 (.q 16 (.a 12 (.q 14 (.q 15 (.a 17 (.q 18 (.a 19 (.q 20 .nil)))))))))))) ?_;exact hQ.1):A:=s ⟨h⟩
theorem zaO {A:Prop} (s:A:=by generalize hlx:l[k]=x at *;refine D ?_;refine bP [] hc ?_;rintro _ _ ⟨_,⟨a1,c1,rfl⟩,rfl,rfl⟩;refine zax ?_;refine mg ?_;refine D ?_;refine ⟨k+1,⟨_,_,Wk.aC ak,_,Z,hs++[_],rfl,?_,aj,by simp [Hz],Sa _ ⟨a1,c1,rfl⟩,cq _⟩,by show l.length - (k+1) < l.length - k;omega⟩;rw [X9];rfl):A:=s
theorem zaP {A B:Prop} (h:B) (s:PLift B->A:=by intro hQ;refine zak ?_;refine V [0] hw ?_;exact hQ.1):A:=s ⟨h⟩
theorem zaQ {A B:Prop} (h:B) (s:PLift B->A:=by intro hQ;rw [rs,F aq];simp only;rw [F (by rw [hv];decide),ab (.inl hv),tail_cons,k2];simp only;exact hQ.1):A:=s ⟨h⟩
theorem zaR {A B:Prop} (h:B) (s:PLift B->A:=by intro hQ;refine D ?_;refine V [] hc ?_;exact hQ.1):A:=s ⟨h⟩
theorem zaS {A B:Prop} (h:B) (s:PLift B->A:=by intro hQ;refine bL ?_;simp only [nil_append,length_nil,cL];refine D ?_;exact hQ.1):A:=s ⟨h⟩
theorem zaT {A:Prop} (s:A:=by refine D ?_;exact ⟨rfl,rfl,_,_,Wk.aC ak,rfl,rfl,by rw [bR,ba];rfl⟩):A:=s
theorem zaU {A:Prop} (s:A:=by refine aL (aE 0 7 (.a 7 (.a 8 (.a 9 (.q 10 .nil))))) ?_;refine ao ?_;refine aI [0] zU ?_;refine zay ?_;refine aI [] jP ?_;exact ax):A:=s
theorem zaV {A:Prop} (s:A:=by exact ⟨_,kp,rfl,rfl⟩):A:=s
theorem zaW {A B:Prop} (h:B) (s:PLift B->A:=by intro hQ;refine bL ?_;refine D ?_;exact hQ.1):A:=s ⟨h⟩
theorem zaX {A B:Prop} (h:B) (s:PLift B->A:=by intro hQ;refine en ?_;refine D ?_;exact hQ.1):A:=s ⟨h⟩
theorem zaY {A B:Prop} (h:B) (s:PLift B->A:=by intro hQ;refine GL.BL rfl ⟨by omega,by omega⟩ ?_;exact hQ.1):A:=s ⟨h⟩
theorem zaZ {A:Prop} (s:A:=by exact ⟨_,_,Wk.aC ak,rfl,rfl,aO _,by rw [hm];simp [bj],by rw [hm];simp only;omega⟩):A:=s
theorem za0 {A B:Prop} (h:B) (s:PLift B->A:=by intro hQ;refine D ?_;refine aL (aE 0 10 (.a 10 (.q 11 (.q 12 .nil)))) ?_;exact hQ.1):A:=s ⟨h⟩
theorem za1 {A B:Prop} (h:B) (s:PLift B->A:=by intro hQ;refine jY ?_;refine GL.wk (Wk.freeze (i:=2) rfl rfl rfl (aD _)) ?_;refine GN (by simp only [pg,oH];rfl) ?_;refine GL.wk (Wk.aC (cy:=[U,.v (ii (i:Nat)),U,.box (ar p) 0,U,.loc 3 0,U,U,U,U,U,U,U,strs f.params,U,U,U,U,U,U,U,U,U,U]) ak) ?_;refine GL.wk (Wk.iN 9 1) ?_;exact hQ.1):A:=s ⟨h⟩
theorem za2 {A:Prop} (s:A:=by rw [he] at h;cases h):A:=s
theorem za3 {A B:Prop} (h:B) (s:PLift B->A:=by intro hQ;refine D ?_;refine aL (aE 0 8 (.a 8 (.q 9 (.q 10 .nil)))) ?_;refine ao ?_;refine b7 [] hA ?_;exact hQ.1):A:=s ⟨h⟩
theorem za5 {A:Prop} (s:A:=by rw [hb] at h;cases h):A:=s
theorem za6 {A:Prop} (s:A:=by refine zaM ?_;refine oE ?_;rw [yR];simp only [bp];refine D ?_;refine bP [0] (vr _ _ _ (gM _)) ?_;rintro _ _ ⟨a4,c4,rfl,rfl⟩;refine zax ?_;refine ⟨rfl,rfl,_,_,Wk.aC ak,a4,c4,a3,c3,rfl,?_⟩;rw [de];rfl):A:=s
theorem za7 {A:Prop} (s:A:=by refine ah func180 ntmps180 ?_;refine V [] hL ?_;refine V [] hA ?_;exact al):A:=s
theorem za8 {A B:Prop} (h:B) (s:PLift B->A:=by intro hQ;refine zad ?_;refine V [0] h3 ?_;refine V [0] h4 ?_;exact hQ.1):A:=s ⟨h⟩
theorem za9 {A B:Prop} (h:B) (s:PLift B->A:=by intro hQ;refine aL (aE 0 21 (.a 21 (aE 22 13 (.a 35 (.q 36 (.q 37 .nil)))))) ?_;exact hQ.1):A:=s ⟨h⟩
theorem zba {A:Prop} (s:A:=by exact ⟨fun t r h=>(by cases h),fun _ h=>(by cases h)⟩):A:=s
theorem zbb {A:Prop} (s:A:=by refine V [] h ?_;exact al):A:=s
theorem zbc {A:Prop} (s:A:=by refine D ?_;refine GL.gh 0 rfl rfl rfl rfl rfl rfl rfl rfl bc ju ?_;intro a2 c2;refine zaM ?_;exact ⟨rfl,rfl,_,_,(Wk.cut (n:=2) (aO _) rfl).trans (Wk.aC ak),a2,c2,_,_,rfl,rfl,by simp [fY],bR.symm⟩):A:=s
theorem zbd {A:Prop} (s:A:=by simp only [Value.ownBlock,Option.some.injEq] at bA;exact .inr (by omega)):A:=s
theorem zbe {A:Prop} (s:A:=by refine V [] hc ?_;exact al):A:=s
theorem zbf {A:Prop} (s:A:=by rw [show (st.fns.map so).length+[so (s,acc)].length=(st.fns++[(s,acc)]).length by simp,<-yC so st.fns (s,acc)];refine bo ?_;refine cM ?_;exact ⟨rfl,{ h with aT:=a3,cT:=c3,aF:=a4,cF:=c4 },rfl⟩):A:=s
theorem zbg {A:Prop} (s:A:=by refine GL.wk (Wk.iy (t:=108) rfl rfl rfl rfl) ?_;refine bM ?_;refine V [] jP ?_;exact al):A:=s
theorem zbh {A B:Prop} (h:B) (s:PLift B->A:=by intro hQ;refine cD ?_;refine bo ?_;exact hQ.1):A:=s ⟨h⟩
theorem zbi {A:Prop} (s:A:=by obtain ⟨g,rfl,lW,fR⟩:=qJ hg;rw [iS,ij,ab hp.code,F vz,F qf,F uE,F mx,I g fR];simp only;rw [F mw]):A:=s
theorem zbj {A:Prop} (s:A:=by refine aL (aE 0 33 (.a 33 (.q 34 (.q 35 .nil)))) ?_;refine ao ?_;exact aY ⟨_,_,Wk.aC ak,rfl,rfl⟩):A:=s
theorem zbk {A B:Prop} (h:B) (s:PLift B->A:=by intro hQ;unfold gP qM sc iv;rw [F (show ¬ (T.mk n l).n.s=_ from n1),F (show ¬ (T.mk n l).n.s=_ from n2),F (show ¬ (T.mk n l).n.s=_ from n3)];show (match p.fns.findIdx? (fun f:Go.Sp.Fn=>f.name==n.s) with | none=>_ | some i=>_)=_;rw [hx];exact hQ.1):A:=s ⟨h⟩
theorem zbl {A:Prop} (s:A:=by rw [<-hR] at cq;clear hR;generalize l[k]=x at *;refine D ?_;exact zac):A:=s
theorem zbm {A:Prop} (s:A:=by exact ⟨_,_,Wk.aC ak,rfl,rfl,fun j x y h=>by omega⟩):A:=s
theorem zbn {A:Prop} (s:A:=by exact .inr ⟨x,rfl,M.tr (y:=.error x) k3⟩):A:=s
theorem zbo {A B:Prop} (h:B) (s:PLift B->A:=by intro hQ;refine D ?_;refine aL (aE 0 6 (.q 7 (.q 10 (.a 6 (.q 8 (.q 9 (.a 11 (.a 12 (.q 13 .nil))))))))) ?_;refine ao ?_;refine b7 [] lp ?_;refine b7 [0] (dM p 0 hp aP) ?_;refine b7 [] (jk (levels.getD k []) (p.sign 0) (Ep k hk)) ?_;exact hQ.1):A:=s ⟨h⟩
theorem zbp {A:Prop} (s:A:=by refine ⟨ts++us,by simp [I,h3],?_⟩;rw [de] at h4 |-;rw [aM] at h4 |-;rw [<-gn];exact M.app h4):A:=s
theorem zbq {A:Prop} (s:A:=by refine V [0] (dL p2 [59] et aP) ?_;refine zak ?_;refine V [] (iL 12 at_ [] [e] _ qb) ?_;exact ed):A:=s
theorem zbr {A:Prop} (s:A:=by refine ⟨fun hb=>(by simp at hb),fun _=>?_⟩;obtain ⟨pos,k1⟩:=hi.2 hfa;refine ⟨pos,uy fun f=>?_⟩;rw [rs,F aq];simp only;rw [F (by rw [hv];decide),ab (.inl hv),tail_cons,k1]):A:=s
theorem zbs {A:Prop} (s:A:=by rw [S.ok,aH] at h;rw [S.tree,lY,fy,fy,fy,lY];exact ⟨.inr (.inr (.inr (.inr (.inr (.inr rfl))))),E.sg c h.1,⟨.inr (.inr (.inr (.inr (.inr (.inr rfl))))),S.DK b h.2⟩,trivial⟩):A:=s
theorem zbt {A:Prop} (s:A:=by rw [hb] at hh;refine D ?_;refine V [] hh ?_;exact ⟨rfl,rfl,_,_,Wk.aC ak,rfl,rfl,by rw [bS,hx,List.any_append,hf];simp only [Option.toList,List.any_cons,List.any_nil,hb];rfl⟩):A:=s
theorem zbu {A:Prop} (s:A:=by refine V [0] hex ?_;refine zak ?_;refine V [0] qD ?_;refine zak ?_;refine V [] jP ?_;exact al):A:=s
theorem zbv {A:Prop} (s:A:=by exact ⟨_,_,Wk.aC ak,rfl,rfl,aO _⟩):A:=s
theorem zbw {A:Prop} (s:A:=by obtain ⟨j,hj⟩:=List.mem_iff_getElem?.1 Px;refine ⟨(hr j r hj).1,fun g hg=>?_⟩;obtain ⟨q,hq⟩:=List.mem_iff_getElem?.1 hg;exact (hI.fz _ _ _ ((hr j r hj).2 q g hq)).1):A:=s
theorem zbx {A:Prop} (s:A:=by exact .inr rfl):A:=s
theorem zby {A:Prop} (s:A:=by refine ah func277 ntmps277 ?_;refine V [0] yo ?_;refine aL (aE 0 17 .nil) ?_;refine bo ?_;refine V [0] (mz p1 mu) ?_;refine V [0] (nR p1 7 p1.place) ?_;refine tA ?_;exact zaV):A:=s
theorem zbz {A B:Prop} (h:B) (s:PLift B->A:=by intro hQ;refine aL (aE 0 7 (.a 7 (.q 8 .nil))) ?_;refine ao ?_;exact hQ.1):A:=s ⟨h⟩
theorem zbA {A B:Prop} (h:B) (s:PLift B->A:=by intro hQ;refine cm ?_;refine D ?_;exact hQ.1):A:=s ⟨h⟩
theorem zbB {A:Prop} (s:A:=by exact this.trans (cS (this.ok hp) _)):A:=s
theorem zbC {A:Prop} (s:A:=by rw [eU,bH] at ba;rw [ll ba];exact ax):A:=s
theorem zbD {A B:Prop} (h:B) (s:PLift B->A:=by intro hQ;rw [rd.eq_def];simp only;rw [F aq,F aq,F aq,uW M hl];simp only;exact hQ.1):A:=s ⟨h⟩
theorem zbE {A:Prop} (s:A:=by rw [S.tree,gZ,dV,dV,dV,gZ];exact ⟨fun h=>absurd h (by simp),fun h=>absurd h (by simp),E.wf c,⟨fun h=>absurd h (by simp),fun h=>absurd h (by simp),S.DT b⟩,trivial⟩):A:=s
theorem zbF {A B:Prop} (h:B) (s:PLift B->A:=by intro hQ;refine V [0] hex ?_;refine pN ?_;refine D ?_;refine zak ?_;refine V [0] qD ?_;refine V [0] dY ?_;exact hQ.1):A:=s ⟨h⟩
theorem zbG {A B:Prop} (h:B) (s:PLift B->A:=by intro hQ;rw [ab (by simpa using hv)];refine D ?_;refine aL (aE 0 7 (.a 7 (.a 8 (.a 9 .nil)))) ?_;refine ao ?_;refine zay ?_;exact hQ.1):A:=s ⟨h⟩
theorem zbH {A:Prop} (s:A:=by obtain ⟨I,_⟩:=fj ht;simp only [T.n,I,oG];rfl):A:=s
theorem zbI {A B:Prop} (h:B) (s:PLift B->A:=by intro hQ;rw [rs,F aq];simp only;rw [F (cZ _ av),F (fun h=>h.elim (cZ _ av) (cZ _ av)),F (cZ _ av)];simp only [simple];exact hQ.1):A:=s ⟨h⟩
theorem zbJ {A:Prop} (s:A:=by obtain ⟨g,rfl,hg⟩:=up hg;rw [mS,eH];rw [F KQ,F Hw,F KN,F mx,I];simp only;rw [F mw]):A:=s
theorem zbK {A:Prop} (s:A:=by obtain ⟨f0,h0⟩:=h;obtain ⟨di,I⟩:=M;refine ⟨f0+di+1,fun f hf=>?_⟩;obtain ⟨f,rfl⟩:∃ g,f=g+1:=⟨f - 1,by omega⟩;exact hs f (h0 f aq) (I f aq)):A:=s
theorem zbL {A:Prop} (s:A:=by refine V [0] he ?_;refine zaX ?_;exact ⟨(g,acc++[a],p2),⟨_,_,Wk.aC ak,_,_,rfl,rfl,by simp [hn],by rw [xN,bI],by show n+1+g<=f+1;omega,et,h⟩,by simp⟩):A:=s
theorem zbM {A:Prop} (s:A:=by refine cD ?_;refine ao ?_;refine aY ⟨_,_,(Wk.freeze (i:=5) rfl rfl rfl (dr rfl)).trans ((Wk.cut (n:=4) (dr rfl) rfl).trans (Wk.aC ak)),[],rfl,rfl,rfl⟩):A:=s
theorem zbN {A:Prop} (s:A:=by rw [S.tree,zT,iZ,iZ];exact ⟨fun _=>rfl,E.z a,trivial⟩):A:=s
theorem zbO {A:Prop} (s:A:=by refine zaX ?_;exact ⟨rfl,rfl,_,_,Wk.aC ak,_,_,_,rfl,rfl,by simp [ou],bR.symm⟩):A:=s
theorem zbP {A B:Prop} (h:B) (s:PLift B->A:=by intro hQ;rw [iS,ij,ab hp.code,F vz,ab qf,I g fR];simp only;rw [h4 g lW];simp only;exact hQ.1):A:=s ⟨h⟩
theorem zbQ {A B:Prop} (h:B) (s:PLift B->A:=by intro hQ;refine D ?_;refine V [] he ?_;exact hQ.1):A:=s ⟨h⟩
theorem zbR {A:Prop} (s:A:=by exact this.trans (gz (this.ok mo) av)):A:=s
theorem zbS {A B:Prop} (h:B) (s:PLift B->A:=by intro hQ;refine D ?_;refine aL (aE 0 9 .nil) ?_;exact hQ.1):A:=s ⟨h⟩
theorem zbT {A:Prop} (s:A:=by rename_i gJ;refine (hI.ob j y hj).ext hs.ext (fun b' bA he=>?_) (cV.refl K) (dF.refl β) rfl (fun _ _ _ h=>h);subst he;exact gJ (hI.dis i j _ eT bA)):A:=s
theorem zbU {A:Prop} (s:A:=by simp only [S.ok,aH] at h;have:=hx c h.1;have:=S.lens x hx b h.2 [123,32];rw [S.bB,S.tree,wt];simp only [fL,wt,aM,length_cons,length_nil] at *;omega):A:=s
theorem zbV {A:Prop} (s:A:=by clear hR;generalize l[k]=x at *;refine zaR ?_;exact zac):A:=s
theorem zbW {A:Prop} (s:A:=by rw [lG] at hs;refine D ?_;refine jX [] hs ?_;refine D ?_;exact ⟨rfl,rfl,_,_,(Wk.cut (n:=0) (aD _) rfl).trans (Wk.aC ak),rfl,rfl,nN nP po my lG⟩):A:=s
theorem zbX {A B:Prop} (h:B) (s:PLift B->A:=by intro hQ;refine D ?_;refine V [0] hi ?_;exact hQ.1):A:=s ⟨h⟩
theorem zbY {A:Prop} (s:A:=by simp only [S.ok,aH] at h;have M:=E.hY c h.1;have h3:=mi c;have h4:=S.xf b h.2;rw [S.tree,dO,cE,cE,cE,M,h4];simp [cv,own,T.n,T.kids,bE];exact h3):A:=s
theorem zbZ {A:Prop} (s:A:=by obtain ⟨K',bX,bz,xm⟩:=h B K β w l hm hI hF;exact k B K' bX w l hm bz xm):A:=s
theorem zb0 {A:Prop} (s:A:=by exact hn.tr (y:=.error x) h4):A:=s
theorem zb1 {A:Prop} (s:A:=by exact kV (fun _ _=>rfl) x hx):A:=s
theorem zb2 {A B:Prop} (h:B) (s:PLift B->A:=by intro hQ;refine GL.gh 0 rfl rfl rfl rfl rfl rfl rfl rfl bc ju ?_;exact hQ.1):A:=s ⟨h⟩
theorem zb3 {A B:Prop} (h:B) (s:PLift B->A:=by intro hQ;refine D ?_;refine aL (aE 0 6 (.a 6 (.q 7 .nil))) ?_;refine ao ?_;refine aI [] hc ?_;refine D ?_;exact hQ.1):A:=s ⟨h⟩
theorem zb4 {A:Prop} (s:A:=by refine .sl g 0 _ k rows (fun j r hr=>⟨(o4 r (br hr)).1,fun q g' nw=>?_⟩) qB;rw [cL];exact Fu _ g o1 (by rw [e5];rfl) _ g' (vI o4 hr nw)):A:=s
theorem zb5 {A:Prop} (s:A:=by refine ah func222 ntmps222 ?_;refine V [] hS ?_;refine V [] hM ?_;exact al):A:=s
theorem zb6 {A:Prop} (s:A:=by rw [hg] at eu;refine ah func167 ntmps167 ?_;refine V [] ov ?_;refine V [] gO ?_;refine V [] oJ ?_;refine V [] eu ?_;refine nT ?_;exact zai):A:=s
theorem zb7 {A:Prop} (s:A:=by rw [hR,PJ,show l.length - k=(l.length - (k+1))+1 by omega,List.replicate_succ,List.set_append_right _ _ G,hz,jx,List.set_cons_zero];simp):A:=s
theorem zb8 {A:Prop} (s:A:=by simpa using this):A:=s
theorem zb9 {A:Prop} (s:A:=by refine V [0] jh ?_;exact al):A:=s
theorem zca {A:Prop} (s:A:=by exact ⟨1,⟨_,_,Wk.aC ak,rfl,rfl,by omega,tJ 1 rfl ht⟩,by omega⟩):A:=s
theorem zcb {A B:Prop} (h:B) (s:PLift B->A:=by intro hQ;refine GL.q (YG.Gt rfl rfl oI) ?_;refine zaW ?_;refine V [] hC ?_;exact hQ.1):A:=s ⟨h⟩
theorem zcc {A:Prop} (s:A:=by rw [S.tk] at ht;obtain ⟨t,r,rfl,I,_⟩:=map_cons ht;obtain ⟨I,_⟩:=r9 I;exact ⟨t,r,rfl,fun rest=>⟨jT I av,jT I av⟩⟩):A:=s
theorem zcd {A:Prop} (s:A:=by refine jY ?_;refine GL.wk (Wk.freeze (i:=1) rfl rfl rfl (aO _)) ?_;refine GN (by simp only [pg,oH];rfl) ?_;refine D ?_;exact zbb):A:=s
theorem zce {A B:Prop} (h:B) (s:PLift B->A:=by intro hQ;refine aL (aE 0 7 (.a 7 (.a 8 (.q 9 (.q 10 (.a 11 .nil)))))) ?_;refine ao ?_;refine zay ?_;exact hQ.1):A:=s ⟨h⟩
theorem zcf {A:Prop} (s:A:=by refine D ?_;refine zaX ?_;exact ⟨rfl,rfl,_,_,(Wk.cut (n:=3) (dr rfl) rfl).trans (Wk.aC ak),_,_,rfl,rfl,by simp [fY],bR.symm⟩):A:=s
theorem zcg {A:Prop} (s:A:=by obtain ⟨f0,h0⟩:=h;refine ⟨f0+1,fun f hf=>?_⟩;obtain ⟨f,rfl⟩:∃ g,f=g+1:=⟨f - 1,by omega⟩;exact hs f (h0 f aq)):A:=s
theorem zch {A:Prop} (s:A:=by obtain ⟨h0,xs,I,M,h3,h4,h5⟩:=h;refine ⟨h0,xs,I,M,⟨h3.1,fun i v g h6 h7=>(h3.2 i v g h6 h7).pc ?_⟩,h4,h5⟩;exact zaB):A:=s
theorem zci {A B:Prop} (h:B) (s:PLift B->A:=by intro hQ;refine V [] I ?_;refine V [] M ?_;refine V [] h3 ?_;exact hQ.1):A:=s ⟨h⟩
theorem zcj {A:Prop} (s:A:=by exact ⟨by simp;omega,by simp;omega,by simp;omega,by simp;omega⟩):A:=s
theorem zck {A:Prop} (s:A:=by refine cM ?_;exact ⟨rfl,eb,ec,rfl⟩):A:=s
theorem zcl {A:Prop} (s:A:=by simp only;obtain ⟨g,rfl⟩:∃ g',g=g'+1:=⟨g - 1,by omega⟩;rw [vE,F (by rw [mZ (cj.err k2)];decide),iM (cj.err k2) av]):A:=s
theorem zcm {A:Prop} (s:A:=by rw [h];rcases hs with rfl | rfl | rfl | rfl | rfl | rfl <;> decide):A:=s
theorem zcn {A:Prop} (s:A:=by simp only [S.ok,aH] at h;have M:=E.hY a h.2;have h3:=mi a;rw [S.tree,dO,cE,cE,M];simp [cv,own,T.n,T.kids,h.1,bE];exact h3):A:=s
theorem zco {A:Prop} (s:A:=by obtain ⟨xs,I,M,h3,h4,h5⟩:=h;refine ⟨xs,I,M,⟨h3.1,fun i v g h6 h7=>(h3.2 i v g h6 h7).pc ?_⟩,h4,h5⟩;exact zaB):A:=s
theorem zcp {A B:Prop} (h:B) (s:PLift B->A:=by intro hQ;refine D ?_;refine V [0] (dM p 0 hp aP) ?_;exact hQ.1):A:=s ⟨h⟩
theorem zcq {A:Prop} (s:A:=by refine D ?_;have hc:=fZ (.mk ⟨5,a,0,s,ks⟩ l) 1 hl;exact zbe):A:=s
theorem zcr {A:Prop} (s:A:=by rw [mr] at my;rw [pd hl my];exact ax):A:=s
theorem zcs {A:Prop} (s:A:=by rw [List.map_cons,sum_cons,ih (fun r hr=>hk r (cU _ hr)),(hk r (mem_cons_self)).1,length_cons,Nat.succ_mul];omega):A:=s
theorem zct {A:Prop} (s:A:=by obtain ⟨g,rfl,hg⟩:=nK hg;rw [iE,ij,ab hp.code,F uG,F dx,F bA,ab k2.1.code,F xo,ab qf,k3 g aq];simp only [ht]):A:=s
theorem zcu {A:Prop} (s:A:=by simp only [S.ok] at h;have M:=E.hY a h;have h3:=mi a;rw [S.tree,dO,cE,cE,M];simp [cv,own,T.n,T.kids,bE];exact h3):A:=s
theorem zcv {A:Prop} (s:A:=by simp only [S.ok,aH] at h;have hb:=xe b h.2 d;rw [S.tree,lM,List.map_cons,kG c h.1,rN,rN,rN,hb,S.bB];simp [zk,fX]):A:=s
theorem zcw {A:Prop} (s:A:=by refine ⟨q',h4.tr h5,fun acN=>?_⟩;obtain ⟨u,r,rfl,_,_⟩:=map_cons I;rw [length_cons,<-gn,sV hp h3,h6];simp):A:=s
theorem zcx {A B:Prop} (h:B) (s:PLift B->A:=by intro hQ;refine V [0] M ?_;refine zaP ?_;refine zbF ?_;refine zaX ?_;exact hQ.1):A:=s ⟨h⟩
theorem zcy {A B:Prop} (h:B) (s:PLift B->A:=by intro hQ;refine D ?_;refine oE ?_;refine D ?_;exact hQ.1):A:=s ⟨h⟩
theorem zcz {A:Prop} (s:A:=by exact this.trans (I _ _ _ _ (this.ok hp) h)):A:=s
theorem zcA {A:Prop} (s:A:=by subst he;refine D ?_;refine aL (aE 0 8 (.a 8 (.q 9 (.q 10 .nil)))) ?_;refine bo ?_;refine V [0] KA ?_;exact jw):A:=s
theorem zcC {A B:Prop} (h:B) (s:PLift B->A:=by intro hQ;refine ao ?_;refine OA rfl rfl ?_;exact hQ.1):A:=s ⟨h⟩
theorem zcD {A:Prop} (s:A:=by refine ao ?_;exact ax):A:=s
theorem zcE {A:Prop} (s:A:=by refine bo ?_;exact ⟨rfl,rfl,_,_,Wk.aC ak,rfl,rfl,nN nP po my lG⟩):A:=s
theorem zcF {A:Prop} (s:A:=by refine zbS ?_;refine bo ?_;exact ⟨k+1,⟨_,_,Wk.aC ak,rfl,rfl,aj⟩,by show l.length - (k+1) < l.length - k;omega⟩):A:=s
theorem zcG {A B:Prop} (h:B) (s:PLift B->A:=by intro hQ;refine aL (aE 0 6 (.a 6 (.a 7 (.a 8 (.q 9 (.q 10 (.a 11 .nil))))))) ?_;refine ao ?_;exact hQ.1):A:=s ⟨h⟩
theorem zcH {A:Prop} (s:A:=by refine GL.wk (Wk.wK (i:=2) (o:=5) rfl rfl rfl rfl hn) ?_;refine bM ?_;refine V [0] (dL p [125] hp aP) ?_;exact ed):A:=s
theorem zcI {A:Prop} (s:A:=by exact h B K _ w' _ hm bz ((hF.mono (cV.refl K) (jr (by rw [hI.out _ (aD _)];trivial))).put d (.loc _ 0 b bG))):A:=s
theorem zcJ {A:Prop} (s:A:=by exact ⟨_,_,Wk.aC ak,k,by simp [bN],rfl,by rw [Ag],aO _⟩):A:=s
theorem zcK {A:Prop} (s:A:=by rw [S.ok] at h;rw [S.tree,lY,fy,fy];exact ⟨.inr (.inr (.inr (.inr (.inr (.inr rfl))))),E.sg a h,trivial⟩):A:=s
theorem zcL {A:Prop} (s:A:=by refine D ?_;exact ⟨rfl,rfl,_,_,(Wk.cut (n:=1) (aO _) rfl).trans (Wk.aC ak),rfl,rfl,by rw [bR,ba,hb];rfl⟩):A:=s
theorem zcM {A:Prop} (s:A:=by obtain ⟨g,rfl,hg⟩:=nK hg;rw [iE,ij,ab hp.code,F uG,F dx,F bA,ab k2.1.code,ab xo,k3 g aq];simp only [ht]):A:=s
theorem zcN {A:Prop} (s:A:=by have:=gT t;omega):A:=s
theorem zcO {A:Prop} (s:A:=by refine zaR ?_;exact ⟨rfl,rfl,_,_,(Wk.cut (n:=0) (dr rfl) rfl).trans (Wk.aC ak),_,rfl,rfl,by rw [jQ,hj]⟩):A:=s
theorem zcP {A:Prop} (s:A:=by refine ah func167 ntmps167 ?_;refine V [] ov ?_;refine V [] gO ?_;refine V [] hsa ?_;refine nT ?_;exact zai):A:=s
theorem zcQ {A:Prop} (s:A:=by refine mg ?_;refine D ?_;exact ⟨i+1,⟨_,_,Wk.aC ak,_,rfl,rfl,aj,cq⟩,by show n - (i+1) < n - i;omega⟩):A:=s
theorem zcR {A:Prop} (s:A:=by unfold eP at h;rw [qc] at h;obtain ⟨l,hl,hc⟩:=h;exact List.mem_flatten.2 ⟨l,hl,by simpa using hc⟩):A:=s
theorem zcS {A:Prop} (s:A:=by obtain ⟨g,rfl,hg⟩:=up hg;rw [mE];simp only [eH,hp.code,uD,if_true,F C7,F O5,F hu,ab hb];rw [I g aq]):A:=s
theorem zcT {A B:Prop} (h:B) (s:PLift B->A:=by intro hQ;refine aL (aE 0 10 (.a 10 (.a 11 .nil))) ?_;refine bo ?_;exact hQ.1):A:=s ⟨h⟩
theorem zcV {A:Prop} (s:A:=by rw [ab (.inr (by simpa using hz))] at he;subst he;refine za3 ?_;refine D ?_;refine V [0] KA ?_;exact jw):A:=s
theorem zcW {A:Prop} (s:A:=by exact ⟨rfl,rfl,_,_,Wk.aC ak,rfl,rfl⟩):A:=s
theorem zcX {A B:Prop} (h:B) (s:PLift B->A:=by intro hQ;refine iq [] hc ?_;simp only [bO];refine zcy ?_;refine GL.Mh [i+1] fk (mI) (by simp [jM,Xz,aj]) ⟨hk,trivial⟩ rfl ?_;refine bM ?_;rw [bO];exact hQ.1):A:=s ⟨h⟩
theorem zcY {A:Prop} (s:A:=by exact (h.ob i z hi).ext (S:=iD) (Ext.refl w) (fun _ _ h=>h) (cV.refl K) hold (b9 G) (fun _ _ _ h=>h)):A:=s
theorem zcZ {A:Prop} (s:A:=by refine zaP ?_;refine zak ?_;refine V [] jP ?_;exact al):A:=s
theorem zc0 {A:Prop} (s:A:=by rw [F (by rintro (h | h);(· cases h);(· simp at hz;omega))] at he;subst he;refine za3 ?_;exact jv):A:=s
theorem zc1 {A:Prop} (s:A:=by obtain ⟨g,rfl,hg⟩:=up hg;rw [mE];simp only [eH,hp.code,uD,if_true,F C7,F O5,ab hu];rw [I g aq]):A:=s
theorem zc2 {A B:Prop} (h:B) (s:PLift B->A:=by intro hQ;rw [rs,F aq];simp only;rw [F (cZ _ (by simp)),F (fun h=>h.elim (cZ _ (by simp)) (cZ _ (by simp))),F (cZ _ (by simp))];simp only [simple];exact hQ.1):A:=s ⟨h⟩
theorem zc3 {A:Prop} (s:A:=by exact ⟨K,β,fr,Γ,hI,hF,hq⟩):A:=s
theorem zc5 {A B:Prop} (h:B) (s:PLift B->A:=by intro hQ;refine D ?_;refine cH ?_;exact hQ.1):A:=s ⟨h⟩
theorem zc6 {A B:Prop} (h:B) (s:PLift B->A:=by intro hQ;refine aL (aE 0 24 .nil) ?_;refine bo ?_;refine V [0] (mz p hp) ?_;refine V [0] (nR p 7 p.place) ?_;refine cH ?_;rw [RS.name,ab hc,ht];exact hQ.1):A:=s ⟨h⟩
theorem zc7 {A:Prop} (s:A:=by have:=uc us z.cells.toList 0;rw [F5 us _ (by rw [Array.length_toList,PH,zY])] at this;exact zb8):A:=s
theorem zc8 {A:Prop} (s:A:=by exact ⟨_,_,Wk.aC ak,k,by simp [bN],rfl,rfl,aO _⟩):A:=s
theorem zc9 {A:Prop} (s:A:=by rename_i x hx;exact ⟨fun t r h=>(by cases h),fun h h0=>M aq (hx.trans (by cases h0;rfl))⟩):A:=s
theorem zda {A:Prop} (s:A:=by exact ⟨rfl,rfl,_,_,(Wk.cut (n:=0) (aD _) rfl).trans (Wk.aC ak),rfl,rfl,by simpa using hf⟩):A:=s
theorem zdb {A:Prop} (s:A:=by exact ⟨_,_,Wk.aC ak,_,_,[],rfl,rfl,aO _,rfl,(fun i x y _ h=>by simp at h),by rw [hm];rfl⟩):A:=s
theorem zdc {A:Prop} (s:A:=by obtain ⟨g,rfl,hg⟩:=nK hg;rw [iE,ij,ab hp.code,F uG,F (by rw [ht];exact C7),ab bA,I g aq]):A:=s
theorem zdd {A:Prop} (s:A:=by rw [h3] at hL;rw [F (by rw [h3];simp)] at vu;subst vu;refine D ?_;refine V [] hL ?_;exact jw):A:=s
theorem zde {A:Prop} (s:A:=by obtain ⟨l',r'⟩:=y;rw [he] at h4;obtain ⟨rfl,h4⟩:=h4;rw [cW];exact ⟨rfl,M.tr h4⟩):A:=s
theorem zdf {A:Prop} (s:A:=by exact .inl ⟨rfl,rfl,rfl,by simp,fun k hk _=>Below.heap_alloc _ _ _ (by simpa using hk)⟩):A:=s
theorem zdg {A:Prop} (s:A:=by rw [all_eq_false];exact ⟨x,br hx,by simp [hb]⟩):A:=s
theorem zdh {A:Prop} (s:A:=by obtain ⟨g,rfl,hg⟩:=up hg;rw [mS] at this |-;rw [sR hf.err] at this;rw [XO];exact this):A:=s
theorem zdi {A:Prop} (s:A:=by rw [S.bB,S.tree,wt];exact zaJ):A:=s
theorem zdj {A:Prop} (s:A:=by obtain ⟨b,o,s⟩:=a;simp only at this;rw [this]):A:=s
theorem zdk {A:Prop} (s:A:=by refine D ?_;exact ⟨i+1,⟨_,_,Wk.aC ak,rfl,rfl,aj⟩,by show n - (i+1) < n - i;omega⟩):A:=s
theorem zdl {A:Prop} (s:A:=by refine zaX ?_;exact ⟨rfl,rfl,_,_,Wk.aC ak,_,_,rfl,rfl,by simp [hm],bR.symm,by omega⟩):A:=s
theorem zdm {A:Prop} (s:A:=by exact .agg vs gs hl fun i v g I M=>((h i v g I M).mono hk (dF.refl β)).pc (hp g (br M))):A:=s
theorem zdn {A:Prop} (s:A:=by rw [S.tree,zT,iZ,iZ,iZ,zT];exact ⟨fun _=>rfl,E.z c,⟨fun _=>rfl,S.zs b⟩,trivial⟩):A:=s
theorem zdo {A:Prop} (s:A:=by have hl:=nC hF h3;simp only [FE,gv,I,M,hl,hv,Bool.and_self];exact ⟨trivial,trivial⟩):A:=s
theorem zdp {A:Prop} (s:A:=by refine zaM ?_;exact ⟨rfl,rfl,_,_,Wk.aC ak,o0,o9,_,_,_,rfl,rfl,by simp [fY],bR.symm⟩):A:=s
theorem zdq {A:Prop} (s:A:=by rw [eM I] at hc;rw [eM G];refine zaR ?_;exact al):A:=s
theorem zdr {A:Prop} (s:A:=by rw [this];exact ⟨fun hb=>(by cases hb),fun _=>⟨_,uy fun f=>by rw [rs,ab aq]⟩⟩):A:=s
theorem zds {A:Prop} (s:A:=by exact ⟨by simp;omega,by simp;omega,by simp;omega,fun x hx=>by have:=d x hx;omega⟩):A:=s
theorem zdt {A:Prop} (s:A:=by exact ⟨fun h=>absurd h (by simp),fun h=>absurd h (by simp),E.wf a,E.wf b,trivial⟩):A:=s
theorem zdu {A B:Prop} (h:B) (s:PLift B->A:=by intro hQ;refine V [0] (dL _ [61] fm aP) ?_;refine V [0] (Ae (d+1) _ e p2 lD G he) ?_;refine V [0] (dL p2 [59] et aP) ?_;refine zak ?_;exact hQ.1):A:=s ⟨h⟩
theorem zdv {A:Prop} (s:A:=by simp only [oset,bp];exact ax):A:=s
theorem zdw {A:Prop} (s:A:=by rw [how];refine ah func183 ntmps183 ?_;exact al):A:=s
theorem zdx {A:Prop} (s:A:=by refine za0 ?_;refine ao ?_;refine b7 [] hG ?_;refine D ?_;refine V [0] Ub ?_;exact jw):A:=s
theorem zdy {A:Prop} (s:A:=by rw [M];simp only;rw [h3];exact zb0):A:=s
theorem zdz {A:Prop} (s:A:=by refine cM ?_;exact ⟨rfl,h,rfl⟩):A:=s
theorem zdA {A B:Prop} (h:B) (s:PLift B->A:=by intro hQ;refine D ?_;refine jc ?_;exact hQ.1):A:=s ⟨h⟩
theorem zdB {A:Prop} (s:A:=by refine ah func155 ntmps155 ?_;refine zbz ?_;refine aI [] hF ?_;refine D ?_;exact zb9):A:=s
theorem zdC {A B:Prop} (h:B) (s:PLift B->A:=by intro hQ;unfold cC;refine D ?_;refine aL (aE 0 6 (.a 6 .nil)) ?_;refine ao ?_;exact hQ.1):A:=s ⟨h⟩
theorem zdD {A:Prop} (s:A:=by refine ah func171 ntmps171 ?_;refine zbz ?_;refine aI [] hA ?_;refine D ?_;exact zck):A:=s
theorem zdE {A:Prop} (s:A:=by simp only [stay,mem_filter] at hp |-;exact (hs p hp.1).imp (fun h=>⟨h,hp.2⟩) id):A:=s
theorem zdF {A:Prop} (s:A:=by refine aL (aE 0 6 (.a 6 (aE 7 3 .nil))) ?_;refine ao ?_;refine aI [] hj ?_;exact ax):A:=s
theorem zdG {A:Prop} (s:A:=by rw [F (by simpa using hv)];refine D ?_;refine cM ?_;exact ⟨rfl,ad,cp,eb,ec,rfl⟩):A:=s
theorem zdH {A:Prop} (s:A:=by rw [xH,pz];refine A9 ?_ t.n;simp only [if_true];exact xI p t.kids _ (SS.rf _ av _)):A:=s
theorem zdI {A B:Prop} (h:B) (s:PLift B->A:=by intro hQ;refine aL (.q 1 (.q 2 (.a 0 (.a 3 .nil)))) ?_;refine ao ?_;refine aI [] yA ?_;refine aI [] Mz ?_;refine D ?_;refine kU ?_;exact hQ.1):A:=s ⟨h⟩
theorem zdJ {A:Prop} (s:A:=by refine D ?_;exact ⟨_,_,Wk.aC ak,_,l,rfl,by rw [jF];rfl,.inl ⟨rfl,rfl,rfl⟩⟩):A:=s
theorem zdK {A:Prop} (s:A:=by exact this.trans (M _ _ _ _ _ (this.ok hp) h)):A:=s
theorem zdL {A:Prop} (s:A:=by obtain ⟨g,rfl,lW,fR⟩:=qJ hg;rw [iS,ij,ab hp.code,F vz,F qf,F uE,ab mx,I g fR]):A:=s
theorem zdM {A:Prop} (s:A:=by have:cs=[]:=gC h.1.symm;subst this;simp at ho):A:=s
theorem zdN {A:Prop} (s:A:=by refine V [0] eH ?_;refine V [] Jd ?_;exact al):A:=s
theorem zdO {A:Prop} (s:A:=by rw [F hd];exact ⟨fun c' h=>(by rw [hc] at h;cases h;simpa using hd),aD _,I⟩):A:=s
theorem zdP {A:Prop} (s:A:=by exact ⟨_,_,rfl,rfl⟩):A:=s
theorem zdQ {A:Prop} (s:A:=by rw [tU] at ba;exact ⟨rfl,ba⟩):A:=s
theorem zdR {A:Prop} (s:A:=by rw [bH] at gy;subst gy;exact zaF):A:=s
theorem zdS {A:Prop} (s:A:=by simp only [S.ok,aH] at h;rw [S.tree,lM,List.map_cons,kG a h.2,S.bB];simp [zk]):A:=s
theorem zdT {A:Prop} (s:A:=by exact h B K β w' _ hm bz (hF.put d (.v _))):A:=s
theorem zdU {A:Prop} (s:A:=by refine V [] h0 ?_;exact al):A:=s
theorem zdV {A:Prop} (s:A:=by obtain ⟨k1,k2⟩:=key es I;exact ⟨es++[a],k1,by rw [Km,M,k2,aU,aU,h4]⟩):A:=s
theorem zdW {A B:Prop} (h:B) (s:PLift B->A:=by intro hQ;refine D ?_;refine V [] gO ?_;refine V [] eu ?_;exact hQ.1):A:=s ⟨h⟩
theorem zdX {A B:Prop} (h:B) (s:PLift B->A:=by intro hQ;refine D ?_;refine V [] Pr ?_;refine V [] pz ?_;exact hQ.1):A:=s ⟨h⟩
theorem zdY {A:Prop} (s:A:=by rw [hn] at h;cases h):A:=s
theorem zdZ {A:Prop} (s:A:=by simp only [xA,kF,az] at *;omega):A:=s
theorem zd0 {A:Prop} (s:A:=by rw [bS,h,List.foldl_append];rfl):A:=s
theorem zd1 {A:Prop} (s:A:=by exact ⟨l,rfl,hq⟩):A:=s
theorem zd2 {A:Prop} (s:A:=by rw [List.contains_cons,List.contains_nil,Bool.or_false];exact Bool.beq_comm):A:=s
theorem zd4 {A:Prop} (s:A:=by obtain ⟨I,_,_⟩:=oF h;rw [I];simp only;rw [F (by rw [hp c rfl];decide)]):A:=s
theorem zd5 {A:Prop} (s:A:=by have:(idx+1) * k<=rows.length * k:=sD k aj;rw [Nat.succ_mul] at this;omega):A:=s
theorem zd6 {A:Prop} (s:A:=by refine tz ?_;exact zaV):A:=s
theorem zd7 {A B:Prop} (h:B) (s:PLift B->A:=by intro hQ;refine V [0] ht ?_;exact hQ.1):A:=s ⟨h⟩
theorem zd8 {A:Prop} (s:A:=by refine ah func180 ntmps180 ?_;refine V [] hL ?_;refine V [] hG ?_;exact al):A:=s
theorem zd9 {A:Prop} (s:A:=by generalize c.fail 23 n.at_=c1 at *;refine ah func155 ntmps155 ?_;exact zb9):A:=s
theorem zea {A:Prop} (s:A:=by exact ⟨_,rfl⟩):A:=s
theorem zeb {A B:Prop} (h:B) (s:PLift B->A:=by intro hQ;refine D ?_;refine V [] hs ?_;refine V [] HS ?_;refine V [] jQ ?_;refine V [2] dY ?_;refine aL (aE 0 17 .nil) ?_;exact hQ.1):A:=s ⟨h⟩
theorem zec {A:Prop} (s:A:=by refine D ?_;exact ⟨rfl,rfl,_,_,Wk.aC ak,rfl,rfl,by rw [bR,ba,hb];rfl⟩):A:=s
theorem zed {A B:Prop} (h:B) (s:PLift B->A:=by intro hQ;rw [ab rfl,show bb ((p.globals.take k).filter (fun s=>N.contains s)++[s])=R++[[.v (sv s)]] by rw [hR];simp [bb]];exact hQ.1):A:=s ⟨h⟩
theorem zee {A:Prop} (s:A:=by simp only [S.ok] at h;rw [S.tree,lM,List.map_cons,kG a h,S.bB];simp [zk]):A:=s
theorem zeg {A B:Prop} (h:B) (s:PLift B->A:=by intro hQ;rw [show (ke st.trees).length+[[qT t]].length=(st.trees++[t]).length by simp [mb],<-xN st.trees t];refine bo ?_;exact hQ.1):A:=s ⟨h⟩
theorem zei {A:Prop} (s:A:=by rw [E.tree,gZ];exact ⟨fun h=>absurd h (by simp),fun _=>rfl,trivial⟩):A:=s
theorem zej {A:Prop} (s:A:=by obtain ⟨r,jj,eh⟩:=List.mem_flatten.1 (br hg);exact (h4 r jj).2 g eh):A:=s
theorem zek {A:Prop} (s:A:=by rw [F (by rintro (h | h);(· cases h);(· simp at hz;omega))];exact za7):A:=s
theorem zel {A:Prop} (s:A:=by exact ⟨by omega,by omega,by omega,fun x hx=>by have:=d x hx;omega⟩):A:=s
theorem zem {A:Prop} (s:A:=by exact ⟨0,⟨_,_,Wk.aC ak,rfl,rfl,by omega,tJ 0 rfl ht⟩,by omega⟩):A:=s
theorem zen {A:Prop} (s:A:=by unfold wv at hz;simp only [aH,beq_iff_eq] at hz;rw [hk,c6] at hz;omega):A:=s
theorem zeo {A B:Prop} (h:B) (s:PLift B->A:=by intro hQ;rw [ab rfl,show ((p.arrays.take k).filter (fun a=>N.contains a.name)++[a]).map aB=R2++[aB a] by rw [uz];simp];exact hQ.1):A:=s ⟨h⟩
theorem zep {A B:Prop} (h:B) (s:PLift B->A:=by intro hQ;rw [rs,F aq];simp only;rw [F (jT I av),F (fun h=>h.elim (jT I av) (jT I av)),F (jT I av)];simp only [simple];exact hQ.1):A:=s ⟨h⟩
theorem zeq {A:Prop} (s:A:=by exact ⟨_,_,rfl⟩):A:=s
theorem zer {A:Prop} (s:A:=by rw [M] at he;refine ah func121 ntmps121 ?_;refine V [] he ?_;exact al):A:=s
theorem zeh {A:Prop} (s:A:=by exact ⟨_,_,Wk.aC ak,rfl,rfl,fun j hj=>absurd hj (Nat.not_lt_zero _)⟩):A:=s
theorem zes {A B:Prop} (h:B) (s:PLift B->A:=by intro hQ;refine aL (aE 0 3 (.a 3 (.a 4 (.a 5 (.q 6 (.a 7 .nil)))))) ?_;refine ao ?_;refine aI [0] fm ?_;refine zay ?_;exact hQ.1):A:=s ⟨h⟩
theorem zet {A B:Prop} (h:B) (s:PLift B->A:=by intro hQ;refine D ?_;refine V [] Pa ?_;refine GL.wk (Wk.iy (t:=59) rfl rfl rfl ou) ?_;refine zaM ?_;refine V [] hL ?_;exact hQ.1):A:=s ⟨h⟩
theorem zeu {A:Prop} (s:A:=by exact ⟨fun t r h=>(by cases h;exact aD _),fun _ h=>(by cases h)⟩):A:=s
theorem zev {A:Prop} (s:A:=by obtain ⟨g,rfl⟩:∃ g',g=g'+1:=⟨g - 1,by omega⟩;exact hk g aq):A:=s
theorem zew {A:Prop} (s:A:=by obtain ⟨pos,k1⟩:=hx.2 hb;exact ⟨pos,Ev.ixX hd I hl h3 lV k1⟩):A:=s
theorem zex {A:Prop} (s:A:=by cases t' with | zero=>rfl | succ t'=>exact ih (fun e=>h (by rw [e]))):A:=s
theorem zey {A B:Prop} (h:B) (s:PLift B->A:=by intro hQ;refine GL.wk (Wk.iy (t:=57) rfl rfl rfl rfl) ?_;refine bM ?_;exact hQ.1):A:=s ⟨h⟩
theorem zez {A:Prop} (s:A:=by have:l=[]:=List.eq_nil_of_length_eq_zero G;subst this;exact .inl rfl):A:=s
theorem zeA {A:Prop} (s:A:=by exact h _ _ B K' _ w' _ hm rj ((hF.mono hK sK).put (some dt) (.v _))):A:=s
theorem zeC {A:Prop} (s:A:=by rename_i b p' he;have:=hn.trans (I _ _ _ _ (hn.ok hp) he);exact zcz):A:=s
theorem zeD {A:Prop} (s:A:=by obtain ⟨g,rfl,hg⟩:=up hg;rw [mS,eH];rw [F KQ,F Hw,F KN,ab mx,I]):A:=s
theorem zeE {A:Prop} (s:A:=by rw [this];exact ⟨fun hb=>(by cases hb),fun _=>⟨_,Ev.TU aq⟩⟩):A:=s
theorem zeF {A:Prop} (s:A:=by refine ah func123 ntmps123 ?_;exact al):A:=s
theorem zeG {A:Prop} (s:A:=by refine ah func255 ntmps255 ?_;exact al):A:=s
theorem zeH {A:Prop} (s:A:=by refine zbh ?_;refine cM ?_;exact ⟨rfl,o0,o9,eb,ec,by simp [bb]⟩):A:=s
theorem zeI {A:Prop} (s:A:=by obtain ⟨t,I,M,h3⟩:=ej av hc;exact ⟨t,I,M,h3.trans hc.symm⟩):A:=s
theorem zeJ {A:Prop} (s:A:=by obtain ⟨g,rfl,hg⟩:=nK hg;rw [iE,ij,ab hp.code,ab uG,I g aq,ht]):A:=s
theorem zeK {A:Prop} (s:A:=by obtain ⟨g,rfl,lW,fR⟩:=qJ hg;rw [iS,ij,ab hp.code,ab vz,I g fR]):A:=s
theorem zeL {A:Prop} (s:A:=by subst eZ;rw [List.drop_of_length_le G,bO] at hR;subst hR;exact zaF):A:=s
theorem zeM {A:Prop} (s:A:=by refine zax ?_;exact ⟨rfl,rfl,_,_,Wk.aC ak,lz,lA,oo,oq,rfl,rfl⟩):A:=s
theorem zeN {A:Prop} (s:A:=by refine ah func6 ntmps6 ?_;refine zci ?_;refine V [] h4 ?_;exact al):A:=s
theorem zeO {A:Prop} (s:A:=by rw [he] at h;exact .inr ⟨x,rfl,h⟩):A:=s
theorem zeP {A:Prop} (s:A:=by obtain ⟨g,rfl,hg⟩:=up hg;rw [mS,eH];rw [ab (by rw [eu,hv]),I]):A:=s
theorem zeQ {A:Prop} (s:A:=by simp [E.tree,T.n] at h3):A:=s
theorem zeR {A:Prop} (s:A:=by obtain ⟨j,b⟩:=gd;simp only at hv hc;simp only [gG,hv,hc];simp):A:=s
theorem zeS {A B:Prop} (h:B) (s:PLift B->A:=by intro hQ;simp only [oset,bp];refine aL (aE 0 7 (.a 7 (.a 8 (aE 9 3 (.a 12 .nil))))) ?_;refine ao ?_;refine zay ?_;exact hQ.1):A:=s ⟨h⟩
theorem zeT {A:Prop} (s:A:=by rw [ab (by simpa using h3)];exact zae):A:=s
theorem zeU {A:Prop} (s:A:=by subst vu;refine D ?_;refine V [] hL ?_;refine V [] hA ?_;exact jw):A:=s
theorem zeV {A:Prop} (s:A:=by rw [mE,F (by rw [eu];exact hb),ab (by rw [eu];exact hc),k1 g hg]):A:=s
theorem zeW {A:Prop} (s:A:=by refine zbD ?_;rw [F (by rw [hs];decide),ab hs,tail_cons,h0 f aq]):A:=s
theorem zeX {A B:Prop} (h:B) (s:PLift B->A:=by intro hQ;refine V [] hS ?_;refine aL (aE 0 8 (.a 8 (.a 9 .nil))) ?_;exact hQ.1):A:=s ⟨h⟩
theorem zeY {A B:Prop} (h:B) (s:PLift B->A:=by intro hQ;refine V [0] hi ?_;refine V [0] fm ?_;exact hQ.1):A:=s ⟨h⟩
theorem zeZ {A B:Prop} (h:B) (s:PLift B->A:=by intro hQ;refine zaN ?_;refine ao ?_;refine b7 [0] ht ?_;refine b7 [] vD ?_;refine b7 [0] ht ?_;refine b7 [] Ui ?_;exact hQ.1):A:=s ⟨h⟩
theorem ze0 {A:Prop} (s:A:=by exact ⟨aD _,h⟩):A:=s
theorem ze1 {A:Prop} (s:A:=by rw [E.bB,E.full,E.tree,wt];exact zaJ):A:=s
theorem ze2 {A:Prop} (s:A:=by refine D ?_;have hc:=fZ (.mk ⟨9,a,0,s,ks⟩ l) 1 hl;exact zbe):A:=s
theorem ze3 {A:Prop} (s:A:=by rcases hk with hk | hk <;> rw [hk] at h <;> simp at h <;> omega):A:=s
theorem ze4 {A:Prop} (s:A:=by refine zbA ?_;refine nT ?_;exact zai):A:=s
theorem ze5 {A:Prop} (s:A:=by rw [hb] at h;rw [hit hb];refine D ?_;refine pM [] h ?_;exact ax):A:=s
theorem ze6 {A:Prop} (s:A:=by rw [F (by simpa using h3)];exact zae):A:=s
theorem ze7 {A:Prop} (s:A:=by rw [pe,aM];have:=lr (l.take k);omega):A:=s
theorem ze8 {A:Prop} (s:A:=by refine aI [] hB ?_;exact lO):A:=s
theorem ze9 {A:Prop} (s:A:=by exact ⟨fun t r h=>(by cases h;simp),fun _ h=>(by cases h)⟩):A:=s
theorem zfb {A:Prop} (s:A:=by split at h <;> cases h):A:=s
theorem zfc {A:Prop} (s:A:=by exact absurd h3 (by simp [one,T.n])):A:=s
theorem zfd {A B:Prop} (h:B) (s:PLift B->A:=by intro hQ;rw [mS,I];simp only;rw [h4 g hg];simp only;exact hQ.1):A:=s ⟨h⟩
theorem zfe {A:Prop} (s:A:=by simp only [eD,Bool.or_eq_false_iff,beq_eq_false_iff_ne];omega):A:=s
theorem zff {A:Prop} (s:A:=by refine kU ?_;exact zai):A:=s
theorem zfg {A:Prop} (s:A:=by exact (Dt (cj.err M)).2.1 g _ _ _ (by unfold KF at hg;omega)):A:=s
theorem zfh {A:Prop} (s:A:=by refine V [] hg ?_;exact al):A:=s
theorem zfi {A:Prop} (s:A:=by rw [h3.2.2] at h4;exact .inr (.inl ⟨r,x,M,h4,h3.tr h5⟩)):A:=s
theorem zfj {A:Prop} (s:A:=by exact ⟨-1,rfl,fun h=>by omega⟩):A:=s
theorem zfk {A:Prop} (s:A:=by have:=e1 c (by rw [he];exact hc);rw [xr] at this;cases this):A:=s
theorem zfl {A:Prop} (s:A:=by have cq:=mR (f:=(fun i=>[GV.v (ii i)])) (Z:=Z) hx;exact zbl):A:=s
theorem zfm {A:Prop} (s:A:=by have cq:=mR (f:=(fun s=>[GV.v (sv s)])) (Z:=Z) hx;exact zbl):A:=s
theorem zfn {A:Prop} (s:A:=by refine ao ?_;refine aI [] XM ?_;refine aI [] Bx ?_;exact ax):A:=s
theorem zfo {A:Prop} (s:A:=by rw [tR nP po (p:=fun x y=>x==y) lG];refine zbS ?_;exact zcD):A:=s
theorem zfp {A:Prop} (s:A:=by rw [getElem?_eq_none G,getElem?_eq_none (by rw [bV];omega)]):A:=s
theorem zfq {A B:Prop} (h:B) (s:PLift B->A:=by intro hQ;refine aL (aE 0 33 (.a 33 (.q 34 (.q 35 .nil)))) ?_;refine ao ?_;refine b7 [0] (dM p1 1 mu aP) ?_;exact hQ.1):A:=s ⟨h⟩
theorem zfr {A B:Prop} (h:B) (s:PLift B->A:=by intro hQ;refine cD ?_;refine ao ?_;exact hQ.1):A:=s ⟨h⟩
theorem zfs {A:Prop} (s:A:=by rw [De];refine cD ?_;simp only [cL];refine ao ?_;exact za4):A:=s
theorem zft {A:Prop} (s:A:=by rw [k1];simp only;rw [k2];exact .inl ⟨r',rfl,M.tr k3⟩):A:=s
theorem zfu {A:Prop} (s:A:=by exact absurd M (Qv _ _ _ (fun k d out h=>by cases h) _ _)):A:=s
theorem zfv {A:Prop} (s:A:=by refine ⟨pos,zA k3 fun f k3=>?_⟩;refine zaQ ?_;rw [k3]):A:=s
theorem zfw {A:Prop} (s:A:=by unfold dv;rw [show (t.n.kind==4)=false by simp;omega];rfl):A:=s
theorem zfx {A:Prop} (s:A:=by simp only;omega):A:=s
theorem zfy {A:Prop} (s:A:=by rw [E.tree,zT,iZ,iZ];exact ⟨fun _=>rfl,E.z a,trivial⟩):A:=s
theorem zfz {A:Prop} (s:A:=by rw [bS,this,hR];simp [bb]):A:=s
theorem zfA {A:Prop} (s:A:=by refine D ?_;refine V [] hM ?_;refine V [0] Xr ?_;exact iO):A:=s
theorem zfB {A:Prop} (s:A:=by exact ⟨_,_,Wk.aC ak,none,0,[],0,rfl,rfl,rfl,aO _,rfl⟩):A:=s
theorem zfC {A:Prop} (s:A:=by exact ⟨I,fun h=>M (by simp only [ql] at h |-;omega)⟩):A:=s
theorem zfD {A:Prop} (s:A:=by rw [M];simp only;rw [h3];exact ⟨by rw [cW],hn.tr h4⟩):A:=s
theorem zfE {A:Prop} (s:A:=by rw [b9 I] at hi;rw [b9 M] at hj;exact h.dis i j b' hi hj):A:=s
theorem zfF {A:Prop} (s:A:=by refine D ?_;refine V [] qS ?_;refine V [] cZ ?_;exact al):A:=s
theorem zfG {A:Prop} (s:A:=by exact h4 k t' a' (by simpa using ht) (by simpa using ha)):A:=s
theorem zfH {A:Prop} (s:A:=by refine ah func255 ntmps255 ?_;refine V [] hF ?_;exact al):A:=s
theorem zfI {A:Prop} (s:A:=by rw [<-he,show N+1 - i=(N+1 - (i+1))+1 by omega,GR hx,fk]):A:=s
theorem zfJ {A B:Prop} (h:B) (s:PLift B->A:=by intro hQ;simp only [cons_append,nil_append];exact hQ.1):A:=s ⟨h⟩
theorem zfK {A:Prop} (s:A:=by repeat (first | exact ky.n | (apply ky.w;(· decide +kernel)) | (apply ky.y;(· first | (apply YQ.t;(· exact rfl);(· exact rfl);(· (first | exact x5 | (apply K.idx;first | exact YG.idxV rfl rfl rfl bc G | exact YG.eX 0 rfl rfl rfl dE | exact YG.eX 1 rfl rfl rfl dE | exact YG.eX 2 rfl rfl rfl dE | exact YG.eX 3 rfl rfl rfl dE | exact YG.eX 4 rfl rfl rfl dE | exact YG.eX 5 rfl rfl rfl dE | exact YG.eX 6 rfl rfl rfl dE) | exact x6 | exact YG.xT 1 rfl rfl bc bc | exact YG.mv | exact YG.xb | (apply K.bin;first | exact YG.go rfl | exact YG.zq rfl rfl G | exact YG.CZ rfl rfl | exact YG.DB rfl rfl | exact YG.G5 rfl rfl | exact YG.Ij rfl rfl | exact YG.cat rfl rfl G | exact YG.cat rfl rfl (by simp only [aM,length_cons,length_nil];omega) | exact YG.ff rfl rfl G | exact YG.add rfl rfl G | exact YG.sub rfl rfl G | exact YG.mul rfl rfl G | exact YG.IW rfl rfl G | exact YG.quo rfl rfl G | exact YG.rem rfl rfl G | exact YG.yB rfl rfl) | exact vR | exact vQ | exact uN | exact sC | exact ug | (apply K.idx;first | exact YG.yu rfl rfl dh | exact YG.oy rfl rfl dh rfl | exact YG.oy rfl rfl dh G | exact YG.z6 rfl rfl G) | exact YG.ext rfl rfl | exact YG.go rfl | (apply K.QJ;first | exact YG.IV rfl rfl rfl G | exact YG.IU rfl rfl G | exact YG.IQ rfl rfl G | exact YG.Aw 1 rfl rfl rfl bc) | exact YG.vA rfl rfl dh | exact YG.idxSC rfl rfl dh rfl | exact uh | exact YG.build rfl | exact YG.neg rfl G | exact YG.vk rfl rfl | exact YG.CX rfl (by first | rfl | exact IntWalk.i64_in _ G | exact IntWalk.u8_in _ G | assumption) | exact YG.str rfl bc))) | (apply YQ.t;(· exact rfl);(· apply Eg;(· exact rfl);(· first | exact rfl | assumption));(· (first | exact x5 | (apply K.idx;first | exact YG.idxV rfl rfl rfl bc G | exact YG.eX 0 rfl rfl rfl dE | exact YG.eX 1 rfl rfl rfl dE | exact YG.eX 2 rfl rfl rfl dE | exact YG.eX 3 rfl rfl rfl dE | exact YG.eX 4 rfl rfl rfl dE | exact YG.eX 5 rfl rfl rfl dE | exact YG.eX 6 rfl rfl rfl dE) | exact x6 | exact YG.xT 1 rfl rfl bc bc | exact YG.mv | exact YG.xb | (apply K.bin;first | exact YG.go rfl | exact YG.zq rfl rfl G | exact YG.CZ rfl rfl | exact YG.DB rfl rfl | exact YG.G5 rfl rfl | exact YG.Ij rfl rfl | exact YG.cat rfl rfl G | exact YG.cat rfl rfl (by simp only [aM,length_cons,length_nil];omega) | exact YG.ff rfl rfl G | exact YG.add rfl rfl G | exact YG.sub rfl rfl G | exact YG.mul rfl rfl G | exact YG.IW rfl rfl G | exact YG.quo rfl rfl G | exact YG.rem rfl rfl G | exact YG.yB rfl rfl) | exact vR | exact vQ | exact uN | exact sC | exact ug | (apply K.idx;first | exact YG.yu rfl rfl dh | exact YG.oy rfl rfl dh rfl | exact YG.oy rfl rfl dh G | exact YG.z6 rfl rfl G) | exact YG.ext rfl rfl | exact YG.go rfl | (apply K.QJ;first | exact YG.IV rfl rfl rfl G | exact YG.IU rfl rfl G | exact YG.IQ rfl rfl G | exact YG.Aw 1 rfl rfl rfl bc) | exact YG.vA rfl rfl dh | exact YG.idxSC rfl rfl dh rfl | exact uh | exact YG.build rfl | exact YG.neg rfl G | exact YG.vk rfl rfl | exact YG.CX rfl (by first | rfl | exact IntWalk.i64_in _ G | exact IntWalk.u8_in _ G | assumption) | exact YG.str rfl bc))) | (apply YQ.f;(· exact rfl);(· apply Hi;(· exact rfl);(· first | exact rfl | assumption))))))):A:=s
theorem zfL {A:Prop} (s:A:=by simp):A:=s
theorem zfM {A:Prop} (s:A:=by show ¬ (decide (a < 0)=true);rw [ha];decide):A:=s
theorem zfN {A:Prop} (s:A:=by rw [he];intro h0;cases h0;exact hx rfl):A:=s
theorem zfO {A:Prop} (s:A:=by omega):A:=s
theorem zfP {A:Prop} (s:A:=by simpa using h):A:=s
theorem zfQ {A:Prop} (s:A:=by rw [he];intro h0;cases h0):A:=s
theorem zfR {A:Prop} (s:A:=by simpa using hl):A:=s
theorem zfS {A:Prop} (s:A:=by cases h):A:=s
theorem zfT {A:Prop} (s:A:=by unfold lim;omega):A:=s
theorem zfU {A:Prop} (s:A:=by simpa using I):A:=s
theorem zfV {A:Prop} (s:A:=by rw [h0]):A:=s
theorem zfW {A:Prop} (s:A:=by simpa using jR h5 0 t rfl):A:=s
theorem zfX {A:Prop} (s:A:=by rw [List.mem_take_iff_getElem];exact ⟨j,by omega,rfl⟩):A:=s
theorem zfY {A:Prop} (s:A:=by simp only [kF,az];omega):A:=s
theorem zfZ {A:Prop} (s:A:=by simpa using hv):A:=s
theorem zf0 {A:Prop} (s:A:=by apply Wk.oW (t:=3) (i:=0) <;> rfl):A:=s
theorem zf1 {A:Prop} (s:A:=by rw [du];omega):A:=s
theorem zf2 {A:Prop} (s:A:=by rw [hs];decide):A:=s
theorem zf3 {A:Prop} (s:A:=by simpa using hb):A:=s
theorem zf4 {A:Prop} (s:A:=by simpa using hj):A:=s
theorem zf5 {A:Prop} (s:A:=by rw [bg,dN,F (fun e=>cn e.symm)];exact hi):A:=s
theorem zf6 {A:Prop} (s:A:=by simpa using M):A:=s
theorem zf7 {A:Prop} (s:A:=by simpa using hc):A:=s
theorem zf8 {A:Prop} (s:A:=by simpa using hk):A:=s
theorem zf9 {A:Prop} (s:A:=by unfold fW at hf |-;rw [sI];exact hf):A:=s
theorem zga {A:Prop} (s:A:=by rw [rp];omega):A:=s
theorem zgb {A:Prop} (s:A:=by simp;omega):A:=s
theorem zgc {A:Prop} (s:A:=by simp [execOp,resolve,invoke,builtin,sJ,tX,oJ]):A:=s
theorem zgd {A:Prop} (s:A:=by rw [bV];omega):A:=s
theorem zge {A:Prop} (s:A:=by rw [kA];simpa using kZ.mV I):A:=s
theorem zgf {A:Prop} (s:A:=by unfold fN;omega):A:=s
theorem zgg {A:Prop} (s:A:=by rw [cZ];trivial):A:=s
theorem zgh {A:Prop} (s:A:=by simpa using jR h5 1 u rfl):A:=s
theorem zgi {A:Prop} (s:A:=by simp [Op.operands]):A:=s
theorem zgj {A:Prop} (s:A:=by rw [ha];rfl):A:=s
theorem zgk {A:Prop} (s:A:=by rw [eu];exact hb):A:=s
theorem zgl {A:Prop} (s:A:=by rw [sI];exact hs):A:=s
theorem zgm {A:Prop} (s:A:=by unfold KF at hg;omega):A:=s
theorem zgn {A:Prop} (s:A:=by simpa using h0):A:=s
theorem zgo {A:Prop} (s:A:=by rw [hb];decide):A:=s
theorem zgp {A:Prop} (s:A:=by simpa [bg] using hj):A:=s
theorem zgq {A:Prop} (s:A:=by unfold lim bY;omega):A:=s
theorem zgr {A:Prop} (s:A:=by rw [length_cons] at hG;omega):A:=s
theorem zgs {A:Prop} (s:A:=by rw [cX];exact gq.1):A:=s
theorem zgt {A:Prop} (s:A:=by rw [h3.1,hk]):A:=s
theorem zgu {A:Prop} (s:A:=by simp [hi]):A:=s
theorem zgv {A:Prop} (s:A:=by simp at cX;omega):A:=s
theorem zgw {A:Prop} (s:A:=by rw [bO];exact hI):A:=s
theorem zgx {A:Prop} (s:A:=by simp only;omega):A:=s
theorem zgy {A:Prop} (s:A:=by simp at hb):A:=s
theorem zgz {A:Prop} (s:A:=by rw [hv];decide):A:=s
theorem zgA {A:Prop} (s:A:=by simpa using hn):A:=s
theorem zgB {A:Prop} (s:A:=by rw [kA];simpa using zY):A:=s
theorem zgC {A:Prop} (s:A:=by rw [kY,fk,<-Nat.add_mul,cX];exact sD _ hroom):A:=s
theorem zgD {A:Prop} (s:A:=by rw [aS,M];rfl):A:=s
theorem zgE {A:Prop} (s:A:=by rw [aX];omega):A:=s
theorem zgF {A:Prop} (s:A:=by simp [rs]):A:=s
theorem zgG {A:Prop} (s:A:=by rw [eR iR];simp [iR]):A:=s
theorem zgH {A:Prop} (s:A:=by first | rfl | decide):A:=s
theorem zgI {A:Prop} (s:A:=by rw [show k+1+t=k+(t+1) by omega];exact h):A:=s
theorem zgJ {A:Prop} (s:A:=by rw [zL,rp];exact growslice_fits zfO zfO):A:=s
theorem zgK {A:Prop} (s:A:=by cases hb):A:=s
theorem zgL {A:Prop} (s:A:=by rw [Cv hp hu];rintro ⟨_,h⟩;cases h):A:=s
theorem zgM {A:Prop} (s:A:=by simpa [mV] using I):A:=s
theorem zgN {A:Prop} (s:A:=by cases h;rfl):A:=s
theorem zgO {A:Prop} (s:A:=by have:=hn.fresh;have:=h.ext.size;omega):A:=s
theorem zgP {A:Prop} (s:A:=by have:=hb i;rw [h] at this;exact this):A:=s
end Go
namespace Go
theorem aq {A:Prop} (s:A:=by omega):A:=s
theorem av {A:Prop} (s:A:=by decide):A:=s
theorem bq {α:Type _} {l:List α} {i:Nat} {a:α} (h:l[i]?=some a):∃ (h:i<l.length),l[i]=a:=List.getElem?_eq_some_iff.1 h
theorem dw {α:Type _} {a b:α} {l:List α} (h:a∈b::l):a=b\/a∈l:=List.mem_cons.1 h
theorem pQ {α:Type _} {a:α} {s t:List α} (h:a∈s++t):a∈s\/a∈t:=List.mem_append.1 h
theorem oO {α:Type _} {a b:α} (h:a∈[b]):a=b:=List.mem_singleton.1 h
theorem qo {α:Type _} {l:List α} {i:Nat} (h:l[i]?=none):l.length<=i:=List.getElem?_eq_none_iff.1 h
theorem F:type_of% @if_neg:=@if_neg
theorem ab:type_of% @if_pos:=@if_pos
theorem aH:type_of% @Bool.and_eq_true:=@Bool.and_eq_true
theorem br:type_of% @List.mem_of_getElem?:=@List.mem_of_getElem?
theorem aM:type_of% @List.length_append:=@List.length_append
theorem aD:type_of% @Nat.le_refl:=@Nat.le_refl
theorem aS:type_of% @List.getElem?_map:=@List.getElem?_map
theorem aO:type_of% @Nat.zero_le:=@Nat.zero_le
theorem dq:type_of% @List.getElem?_eq_getElem:=@List.getElem?_eq_getElem
theorem bV:type_of% @List.length_map:=@List.length_map
theorem gC:type_of% @List.eq_nil_of_length_eq_zero:=@List.eq_nil_of_length_eq_zero
theorem bS:type_of% @List.take_add_one:=@List.take_add_one
theorem dr:type_of% @Nat.le_of_ble_eq_true:=@Nat.le_of_ble_eq_true
theorem bH:type_of% @List.take_length:=@List.take_length
theorem de:type_of% @List.append_assoc:=@List.append_assoc
theorem cL:type_of% @Nat.zero_add:=@Nat.zero_add
theorem cU:type_of% @List.mem_cons_of_mem:=@List.mem_cons_of_mem
theorem fw:type_of% @List.getElem?_append_right:=@List.getElem?_append_right
theorem du:type_of% @List.length_take:=@List.length_take
theorem bO:type_of% @List.append_nil:=@List.append_nil
theorem eR:type_of% @List.getElem?_append_left:=@List.getElem?_append_left
theorem dN:type_of% @List.getElem?_set:=@List.getElem?_set
theorem mJ:type_of% @List.length_zipWith:=@List.length_zipWith
theorem gn:type_of% @Nat.add_assoc:=@Nat.add_assoc
theorem jx:type_of% @Nat.sub_self:=@Nat.sub_self
theorem lT:type_of% @List.drop_eq_getElem_cons:=@List.drop_eq_getElem_cons
theorem jN:type_of% @List.take_of_length_le:=@List.take_of_length_le
theorem jO:type_of% @Nat.le_trans:=@Nat.le_trans
theorem jy:type_of% @List.length_drop:=@List.length_drop
theorem DU:type_of% @Option.some.inj:=@Option.some.inj
theorem kK:type_of% @List.map_append:=@List.map_append
theorem il:type_of% @List.contains_iff_mem:=@List.contains_iff_mem
theorem og:type_of% @of_decide_eq_true:=@of_decide_eq_true
theorem gU:type_of% @List.all_eq_true:=@List.all_eq_true
theorem lk:type_of% @Int.toNat_natCast:=@Int.toNat_natCast
theorem sD:type_of% @Nat.mul_le_mul_right:=@Nat.mul_le_mul_right
theorem y5:type_of% @Nat.lt_of_lt_of_le:=@Nat.lt_of_lt_of_le
theorem oX:type_of% @mem_map:=@mem_map
theorem qc:type_of% @List.any_eq_true:=@List.any_eq_true
end Go
namespace Go.Xp
abbrev ae:=List UInt8
structure Tok where
 kind:Int
 n:Int
 s:ae
 at_:Int
structure Nd where
 kind:Int
 at_:Int
 n:Int
 s:ae
 kids:List Int
inductive T where
 | mk (n:Nd) (kids:List T)
def T.n:T->Nd | .mk n _=>n
def T.kids:T->List T | .mk _ k=>k
abbrev Er:=Int × Int
abbrev Rd (α:Type):=Except Er (α × List Tok)
def bD (t:Tok):ae:=if t.kind=3 then t.s else []
def sign (ts:List Tok) (k:Nat):ae:=match ts[k]? with | some t=>bD t | none=>[]
def place (e:Int):List Tok->Int
 | t::_=>t.at_
 | []=>e
def aV (e:Int) (s:ae) (ts:List Tok):Except Er (List Tok) :=
 if sign ts 0=s then .ok ts.tail else .error (7,place e ts)
def name (e:Int):List Tok->Rd ae
 | []=>.error (7,e)
 | t::r=>if t.kind=2 then (if t.s.length > 12 then .error (8,t.at_) else .ok (t.s,r)) else .error (7,t.at_)
def one (kind at_:Int) (s:ae) (kids:List T):T:=.mk ⟨kind,at_,0,s,[]⟩ kids
def levels:List (List ae):=[[[124,124]],[[38,38]],[[61,61],[33,61],[60],[62],[60,61],[62,61]],[[124]],[[94]],[[38]],[[60,60],[62,62]],[[43],[45]],[[42],[47],[37]]]
def bf:Er:=(-1,-1)
inductive qp where
 | expr (deep:Nat)
 | level (k deep:Nat)
 | loop (k deep:Nat) (out:T)
 | operand (deep:Nat)
def rd (e:Int):Nat->qp->List Tok->Rd T
 | 0,_,_=>.error bf
 | f+1,.expr deep,ts=>if deep > 60 then .error (9,place e ts) else rd e f (.level 0 (deep+1)) ts
 | f+1,.level k deep,ts =>
  if k=9 then rd e f (.operand deep) ts
  else match rd e f (.level (k+1) deep) ts with
   | .error x=>.error x
   | .ok (out,ts)=>rd e f (.loop k deep out) ts
 | f+1,.loop k deep out,ts =>
  match ts with
  | []=>.ok (out,ts)
  | t::r =>
   if t.kind=3/\t.s∈levels.getD k [] then
    match rd e f (.level (k+1) deep) r with
    | .error x=>.error x
    | .ok (b,r)=>rd e f (.loop k deep (one 6 t.at_ t.s [out,b])) r
   else .ok (out,ts)
 | f+1,.operand deep,ts =>
  if deep > 60 then .error (9,place e ts)
  else match ts with
  | []=>.error (7,e)
  | t::r =>
   if t.kind=3 then
    if t.s=[45]\/t.s=[33]\/t.s=[126] then
     match rd e f (.operand (deep+1)) r with
     | .error x=>.error x
     | .ok (a,r)=>.ok (one 5 t.at_ t.s [a],r)
    else if t.s=[40] then
     match rd e f (.expr (deep+1)) r with
     | .error x=>.error x
     | .ok (a,r)=>match aV e [41] r with
      | .error x=>.error x
      | .ok r=>.ok (a,r)
    else .error (7,t.at_)
   else if t.kind=1 then .ok (.mk ⟨1,t.at_,t.n,[],[]⟩ [],r)
   else match name e ts with
    | .error x=>.error x
    | .ok (s,r) =>
     if sign r 0=[91] then
      match rd e f (.expr (deep+1)) r.tail with
      | .error x=>.error x
      | .ok (a,r)=>match aV e [93] r with
       | .error x=>.error x
       | .ok r=>.ok (one 3 t.at_ s [a],r)
     else if sign r 0=[40] then
      match args e f (deep+1) [] r.tail with
      | .error x=>.error x
      | .ok (l,r)=>.ok (one 4 t.at_ s l,r)
     else .ok (one 2 t.at_ s [],r)
where
 args (e:Int):Nat->Nat->List T->List Tok->Rd (List T)
  | 0,_,_,_=>.error bf
  | f+1,deep,acc,ts =>
   if sign ts 0=[41] then .ok (acc,ts.tail)
   else match (if acc=[] then .ok ts else aV e [44] ts) with
    | .error x=>.error x
    | .ok ts=>match rd e f (.expr deep) ts with
     | .error x=>.error x
     | .ok (a,ts)=>args e f deep (acc++[a]) ts
def ja:ae:=[118,97,114]
def eN:ae:=[105,102]
def fp:ae:=[101,108,115,101]
def ei:ae:=[119,104,105,108,101]
def dR:ae:=[114,101,116,117,114,110]
def nj:ae:=[105,110,116]
def oB:ae:=[102,117,110,99]
inductive sN where
 | block (deep:Nat)
 | stmt (deep:Nat)
def ot (ts:List Tok):Nat:=20 * ts.length+20
def expr (e:Int) (deep:Nat) (ts:List Tok):Rd T:=rd e (ot ts) (.expr deep) ts
def inner (e:Int) (deep:Nat) (a b:ae) (ts:List Tok):Rd T :=
 match aV e a ts with
 | .error x=>.error x
 | .ok ts=>match expr e deep ts with
  | .error x=>.error x
  | .ok (t,ts)=>match aV e b ts with
   | .error x=>.error x
   | .ok ts=>.ok (t,ts)
def mF (e:Int) (deep:Nat) (ts:List Tok):Rd (ae × T) :=
 match name e ts with
 | .error x=>.error x
 | .ok (s,ts)=>match inner e deep [61] [59] ts with
  | .error x=>.error x
  | .ok (t,ts)=>.ok ((s,t),ts)
def simple (e:Int) (deep:Nat) (ts:List Tok):Rd T :=
 match ts with
 | []=>match expr e (deep+1) [] with
  | .error x=>.error x
  | .ok _=>.error (7,e)
 | t::_ =>
  if t.kind=2/\sign ts 1=[61] then
   match mF e (deep+1) ts with
   | .error x=>.error x
   | .ok ((s,a),ts)=>.ok (one 7 t.at_ s [a],ts)
  else match expr e (deep+1) ts with
   | .error x=>.error x
   | .ok (a,ts) =>
    if a.n.kind=3/\a.n.at_=t.at_/\sign ts 0=[61] then
     match inner e (deep+1) [61] [59] ts with
     | .error x=>.error x
     | .ok (v,ts)=>.ok (one 8 t.at_ a.n.s (a.kids.take 1++[v]),ts)
    else match aV e [59] ts with
     | .error x=>.error x
     | .ok ts=>.ok (one 12 t.at_ [] [a],ts)
def rs (e:Int):Nat->sN->List Tok->Rd T
 | 0,_,_=>.error bf
 | f+1,.block deep,ts =>
  if deep > 60 then .error (9,place e ts)
  else match aV e [123] ts with
   | .error x=>.error x
   | .ok r=>match body e f (deep+1) [] r with
    | .error x=>.error x
    | .ok (l,r)=>.ok (one 14 (place e ts) [] l,r)
 | f+1,.stmt deep,ts =>
  if deep > 60 then .error (9,place e ts)
  else
   let at_:=place e ts
   if sign ts 0=ja then
    match mF e (deep+1) ts.tail with
    | .error x=>.error x
    | .ok ((s,a),ts)=>.ok (one 13 at_ s [a],ts)
   else if sign ts 0=eN\/sign ts 0=ei then
    match inner e (deep+1) [40] [41] ts.tail with
    | .error x=>.error x
    | .ok (c,r)=>match rs e f (.block (deep+1)) r with
     | .error x=>.error x
     | .ok (b,r) =>
      if sign ts 0=eN then
       if sign r 0=fp then
        match rs e f (.block (deep+1)) r.tail with
        | .error x=>.error x
        | .ok (b2,r)=>.ok (one 9 at_ [] [c,b,b2],r)
       else .ok (one 9 at_ [] [c,b],r)
      else .ok (one 10 at_ [] [c,b],r)
   else if sign ts 0=dR then
    match expr e (deep+1) ts.tail with
    | .error x=>.error x
    | .ok (a,ts)=>match aV e [59] ts with
     | .error x=>.error x
     | .ok ts=>.ok (one 11 at_ [] [a],ts)
   else simple e deep ts
where
 body (e:Int):Nat->Nat->List T->List Tok->Rd (List T)
  | 0,_,_,_=>.error bf
  | f+1,deep,acc,ts =>
   if sign ts 0=[125] then .ok (acc,ts.tail)
   else match rs e f (.stmt deep) ts with
    | .error x=>.error x
    | .ok (a,ts)=>body e f deep (acc++[a]) ts
def block (e:Int) (deep:Nat) (ts:List Tok):Rd T:=rs e (ot ts) (.block deep) ts
structure Ar where
 name:ae
 size:Int
structure aK where
 name:ae
 params:List ae
 tree:T
end Go.Xp
namespace Go.Sp
open Go.Xp
structure RS where
 l:List Tok
 i:Nat
 e:Int
 code:Int
 at_:Int
def RS.ok (p:RS):Prop:=p.i<=p.l.length/\p.l.length<=1099511627776
def RS.place (p:RS):Int:=match p.l[p.i]? with | some t=>t.at_ | none=>p.e
def RS.fail (p:RS) (c a:Int):RS:=if p.code=0 then ⟨p.l,p.i,p.e,c,a⟩ else p
def RS.sign (p:RS) (k:Nat):ae:=if p.code=0 then (match p.l[p.i+k]? with | some t=>bD t | none=>[]) else []
def RS.next (p:RS):RS:=⟨p.l,p.i+1,p.e,p.code,p.at_⟩
def RS.aV (p:RS) (s:ae):RS:=if p.sign 0=s then p.next else p.fail 7 p.place
def RS.name (p:RS):ae × RS :=
 if p.code=0 then match p.l[p.i]? with
  | some t=>if t.kind=2 then (if t.s.length > 12 then ([],p.fail 8 t.at_) else (t.s,p.next)) else ([],p.fail 7 p.place)
  | none=>([],p.fail 7 p.place)
 else ([],p)
def RS.deep (p:RS) (d:Nat):RS:=if d > 60 then p.fail 9 p.place else p
def T.zero:T:=.mk ⟨0,0,0,[],[]⟩ []
inductive J where
 | expr (d:Nat)
 | level (k d:Nat)
 | loop (k d:Nat) (out:T)
 | operand (d:Nat)
 | named (at_:Int) (s:ae) (d:Nat)
mutual
def mE:Nat->J->RS->Option (T × RS)
 | 0,_,_=>none
 | f+1,.expr d,p=>mE f (.level 0 d) (p.deep d)
 | f+1,.level k d,p =>
  if k=9 then mE f (.operand (d+1)) p
  else match mE f (.level (k+1) d) p with
   | none=>none
   | some (out,p)=>mE f (.loop k d out) p
 | f+1,.loop k d out,p =>
  if p.code=0/\(levels.getD k []).contains (p.sign 0)=true then
   match p.l[p.i]? with
   | none=>none
   | some t=>match mE f (.level (k+1) d) p.next with
    | none=>none
    | some (b,p)=>mE f (.loop k d (one 6 t.at_ t.s [out,b])) p
  else some (out,p)
 | f+1,.operand d,p =>
  let p:=p.deep d
  if p.code=0 then match p.l[p.i]? with
   | none=>some (T.zero,p.fail 7 p.place)
   | some t =>
    if t.kind=1 then some (.mk ⟨1,t.at_,t.n,[],[]⟩ [],p.next)
    else if t.kind=2 then mE f (.named t.at_ p.name.1 d) p.name.2
    else if t.s=[45]\/t.s=[33]\/t.s=[126] then match mE f (.operand (d+1)) p.next with
     | none=>none
     | some (a,p)=>some (one 5 t.at_ t.s [a],p)
    else if t.s=[40] then match mE f (.expr (d+1)) p.next with
     | none=>none
     | some (a,p)=>some (a,p.aV [41])
    else some (T.zero,p.fail 7 t.at_)
  else some (T.zero,p.fail 7 p.place)
 | f+1,.named at_ s d,p =>
  if p.sign 0=[91] then match mE f (.expr (d+1)) p.next with
   | none=>none
   | some (a,p)=>some (one 3 at_ s [a],p.aV [93])
  else if p.sign 0=[40] then match mL f (d+1) p.next with
   | none=>none
   | some (l,p)=>some (one 4 at_ s l,p)
  else some (one 2 at_ s [],p)
def mL:Nat->Nat->RS->Option (List T × RS)
 | 0,_,_=>none
 | f+1,d,p=>if p.sign 0=[41] then some ([],p.aV [41]) else match mE f (.expr d) p with
  | none=>none
  | some (a,p)=>vE f d [a] p
def vE:Nat->Nat->List T->RS->Option (List T × RS)
 | 0,_,_,_=>none
 | f+1,d,acc,p=>if p.sign 0=[44] then match mE f (.expr d) p.next with
   | none=>none
   | some (a,p)=>vE f d (acc++[a]) p
  else some (acc,p.aV [41])
end
def RS.pB (p:RS):Bool:=match p.l[p.i]? with | some t=>decide (t.kind=2) | none=>false
def RS.ck (p:RS):Int:=if p.sign 0=eN then 9 else 10
inductive JS where
 | block (d:Nat)
 | stmt (d:Nat)
 | cond (at_:Int) (d:Nat)
def fe (p:RS):Nat:=100 * p.l.length+2000
def mX (d:Nat) (p:RS):Option (T × RS):=mE (fe p) (.expr d) p
mutual
def mS:Nat->JS->RS->Option (T × RS)
 | 0,_,_=>none
 | f+1,.block d,p =>
  let p:=p.deep d
  match mB f (d+1) [] (p.aV [123]) with
  | none=>none
  | some (l,q)=>some (one 14 p.place [] l,q.aV [125])
 | f+1,.stmt d,p =>
  let p:=p.deep d
  let at_:=p.place
  let s:=p.sign 0
  if s=ja then match mX (d+1) ((p.next.name.2).aV [61]) with
   | none=>none
   | some (e,q)=>some (one 13 at_ p.next.name.1 [e],q.aV [59])
  else if s=eN\/s=ei then mS f (.cond at_ d) p
  else if s=dR then match mX (d+1) p.next with
   | none=>none
   | some (e,q)=>some (one 11 at_ [] [e],q.aV [59])
  else if p.code=0/\p.pB=true/\p.sign 1=[61] then match mX (d+1) (p.name.2.aV [61]) with
   | none=>none
   | some (e,q)=>some (one 7 at_ p.name.1 [e],q.aV [59])
  else match mX (d+1) p with
   | none=>none
   | some (e,q) =>
    if e.n.kind=3/\e.n.at_=at_/\q.sign 0=[61] then match e.kids,mX (d+1) q.next with
     | a::_,some (v,q)=>some (one 8 at_ e.n.s [a,v],q.aV [59])
     | _,_=>none
    else some (one 12 at_ [] [e],q.aV [59])
 | f+1,.cond at_ d,p =>
  match mX (d+1) (p.next.aV [40]) with
  | none=>none
  | some (e,q)=>match mS f (.block (d+1)) (q.aV [41]) with
   | none=>none
   | some (b,q) =>
    if p.ck=9/\q.sign 0=fp then match mS f (.block (d+1)) q.next with
     | none=>none
     | some (b2,q)=>some (one p.ck at_ [] [e,b,b2],q)
    else some (one p.ck at_ [] [e,b],q)
def mB:Nat->Nat->List T->RS->Option (List T × RS)
 | 0,_,_,_=>none
 | f+1,d,acc,p=>if p.code=0/\¬ p.sign 0=[125] then match mS f (.stmt d) p with
   | none=>none
   | some (a,p)=>mB f d (acc++[a]) p
  else some (acc,p)
end
theorem gS {p:RS} {k:Nat} {s:ae} (h:p.sign k=s) (hs:s≠[]):p.i+k < p.l.length/\p.code=0:=by
 unfold RS.sign at h;split at h
 ·rename_i hc;refine ⟨Nat.lt_of_not_le fun hn=>?_,hc⟩;rw [List.getElem?_eq_none_iff.2 hn] at h;exact hs h.symm
 ·exact absurd h.symm hs
def RS.to (p q:RS):Prop:=q.l=p.l/\q.e=p.e/\q.i<=q.l.length/\p.i<=q.i
theorem RS.to.ok {p q:RS} (h:p.to q) (hp:p.ok):q.ok:=⟨h.2.2.1,by rw [h.1];exact hp.2⟩
theorem RS.to.trans {p q r:RS} (h:p.to q) (k:q.to r):p.to r:=⟨k.1.trans h.1,k.2.1.trans h.2.1,k.2.2.1,jO h.2.2.2 k.2.2.2⟩
theorem lx {p:RS} (hp:p.ok):p.to p:=⟨rfl,rfl,hp.1,aD _⟩
theorem nJ {p:RS} (hp:p.ok) (c a:Int):p.to (p.fail c a):=by
 unfold RS.fail;split
 ·exact ⟨rfl,rfl,hp.1,aD _⟩
 ·exact lx hp
theorem ek {p:RS} (h:p.i < p.l.length):p.to p.next:=⟨rfl,rfl,h,Nat.le_succ _⟩
theorem gz {p:RS} (hp:p.ok) {s:ae} (hs:s≠[]):p.to (p.aV s):=by
 unfold RS.aV;split
 ·rename_i h;exact ek (by have:=(gS h hs).1;omega)
 ·exact nJ hp _ _
theorem tt {p:RS} (hp:p.ok):p.to p.name.2:=by
 unfold RS.name;split
 ·cases ht:p.l[p.i]? with
  | none=>exact nJ hp _ _
  | some t =>
   simp only;have aj:=(bq ht).1;split
   ·split
    ·exact nJ hp _ _
    ·exact ek aj
   ·exact nJ hp _ _
 ·exact lx hp
theorem qa {p:RS} (hp:p.ok) (d:Nat):p.to (p.deep d):=by
 unfold RS.deep;split
 ·exact nJ hp _ _
 ·exact lx hp
theorem kH {p:RS} {s:ae} (h:p.sign 0=s) (hs:s≠[]):p.to p.next:=ek (by have:=(gS h hs).1;omega)
theorem wD:∀ (f:Nat),(∀ j p t q,p.ok->mE f j p=some (t,q)->p.to q)/\(∀ d p l q,p.ok->mL f d p=some (l,q)->p.to q)/\(∀ d acc p l q,p.ok->vE f d acc p=some (l,q)->p.to q)
 | 0=>⟨fun j p t q _ h=>by simp [mE] at h,fun d p l q _ h=>by simp [mL] at h,fun d acc p l q _ h=>by simp [vE] at h⟩
 | f+1=>by
  obtain ⟨I,M,h3⟩:=wD f;refine ⟨fun j p t q hp h=>?_,fun d p l q hp h=>?_,fun d acc p l q hp h=>?_⟩
  ·cases j with
   | expr d=>rw [mE] at h;exact (qa hp d).trans (I _ _ _ _ ((qa hp d).ok hp) h)
   | level k d =>
    rw [mE] at h;split at h
    ·exact I _ _ _ _ hp h
    ·split at h
     ·cases h
     ·rename_i out p' he;have:=I _ _ _ _ hp he;exact zcz
   | loop k d out =>
    rw [mE] at h;split at h
    ·split at h
     ·cases h
     ·rename_i t' ht;have hn:=ek (p:=p) (bq ht).1;split at h
      ·cases h
      ·exact zeC
    ·cases h;exact lx hp
   | operand d =>
    rw [mE] at h;have hd:=qa hp d;have mo:=hd.ok hp;refine hd.trans ?_;generalize p.deep d=p at *
    try simp only at h
    split at h
    ·split at h
     ·cases h;exact nJ mo _ _
     ·rename_i t' ht;have hn:=ek (p:=p) (bq ht).1;split at h
      ·cases h;exact hn
      ·split at h
       ·exact (tt mo).trans (I _ _ _ _ ((tt mo).ok mo) h)
       ·split at h
        ·split at h
         ·cases h
         ·rename_i a p' he
          cases h;exact hn.trans (I _ _ _ _ (hn.ok mo) he)
        ·split at h
         ·split at h
          ·cases h
          ·rename_i a p' he;have:=hn.trans (I _ _ _ _ (hn.ok mo) he)
           cases h;exact zbR
         ·cases h;exact nJ mo _ _
    ·cases h;exact nJ mo _ _
   | named a s d =>
    rw [mE] at h;split at h
    ·rename_i hs;have hn:=kH hs av;split at h
     ·cases h
     ·rename_i a' p' he;have:=hn.trans (I _ _ _ _ (hn.ok hp) he)
      cases h;exact this.trans (gz (this.ok hp) av)
    ·split at h
     ·rename_i hs;have hn:=kH hs av;split at h
      ·cases h
      ·rename_i a' p' he
       cases h;exact hn.trans (M _ _ _ _ (hn.ok hp) he)
     ·cases h;exact lx hp
  ·rw [mL] at h;split at h
   ·cases h;exact gz hp av
   ·split at h
    ·cases h
    ·rename_i a p' he;have:=I _ _ _ _ hp he;exact this.trans (h3 _ _ _ _ _ (this.ok hp) h)
  ·rw [vE] at h;split at h
   ·rename_i hs;have hn:=kH hs av;split at h
    ·cases h
    ·rename_i a p' he;have:=hn.trans (I _ _ _ _ (hn.ok hp) he);exact this.trans (h3 _ _ _ _ _ (this.ok hp) h)
   ·cases h;exact gz hp av
def small (c:UInt8):Bool:=decide ((97:Int)<=(c.toNat:Int))&&decide ((c.toNat:Int)<=122)
def eS (c:UInt8):Bool:=decide ((48:Int)<=(c.toNat:Int))&&decide ((c.toNat:Int)<=57)
def eI (c:UInt8):Bool:=small c || (decide ((65:Int)<=(c.toNat:Int))&&decide ((c.toNat:Int)<=90)) || eS c || ((c.toNat:Int)==95)
def eD (c:UInt8):Bool:=((c.toNat:Int)==32) || ((c.toNat:Int)==9) || ((c.toNat:Int)==10) || ((c.toNat:Int)==13)
def bT (s:ae) (at_:Nat) (t:ae):Bool:=decide (at_+t.length<=s.length)&&((s.take (at_+t.length)).drop at_==t)
def fP (s:ae):Nat->Nat->Nat
 | 0,e=>e
 | f+1,e=>if e < s.length/\bT s e [42,47]=false then fP s f (e+1) else e
def skip (s:ae):Nat->Nat->Nat × Int
 | 0,at_=>(at_,-1)
 | f+1,at_=>match s[at_]? with
  | none=>(at_,-1)
  | some c =>
   if eD c=true then skip s f (at_+1)
   else if bT s at_ [47,42]=true then
    let e:=fP s s.length (at_+2)
    if s.length<=e then (at_,(at_:Int)) else skip s f (e+2)
   else (at_,-1)
theorem la {s t:ae} {a:Nat} (h:bT s a t=true):a+t.length<=s.length:=by
 simp only [bT,aH,decide_eq_true_eq] at h;exact h.1
theorem uI (s:ae):∀ (f e:Nat),e<=s.length->e<=fP s f e/\fP s f e<=s.length
 | 0,e,h=>⟨aD _,h⟩
 | f+1,e,h=>by
  rw [fP];split
  ·rename_i hc;have:=uI s f (e+1) hc.1;omega
  ·exact ze0
theorem tG (s:ae):∀ (f e:Nat),e<=s.length->s.length<=f+e->¬ (fP s f e < s.length/\bT s (fP s f e) [42,47]=false)
 | 0,e,h,hf=>by rw [fP];omega
 | f+1,e,h,hf=>by
  rw [fP];split
  ·rename_i hc;exact tG s f (e+1) hc.1 aq
  ·assumption
def number (s:ae):Nat->Int->Nat->Int × Nat
 | 0,n,a=>(n,a)
 | f+1,n,a=>match s[a]? with
  | none=>(n,a)
  | some c=>if eS c=true then number s f (if n<=2147483647 then n * 10+((c.toNat:Int) - 48) else n) (a+1) else (n,a)
def run (s:ae) (p:UInt8->Bool):Nat->Nat->Nat
 | 0,a=>a
 | f+1,a=>match s[a]? with
  | none=>a
  | some c=>if p c=true then run s p f (a+1) else a
def words:List ae:=[[105,110,116],[118,97,114],[102,117,110,99],[105,102],[101,108,115,101],[119,104,105,108,101],[114,101,116,117,114,110]]
def cl:List ae:=[[124,124],[38,38],[61,61],[33,61],[60,61],[62,61],[60,60],[62,62],[40],[41],[123],[125],[91],[93],[44],[59],[61],[60],[62],[43],[45],[42],[47],[37],[38],[124],[94],[33],[126]]
def fE (s:ae) (a:Nat):Nat:=run s eI (s.length+1) a
def gm (s:ae) (a:Nat):ae:=(s.take (fE s a)).drop a
def ko (s:ae) (a:Nat) (c:UInt8):Tok × Nat :=
 if eS c=true then (⟨1,(number s (s.length+1) 0 a).1,[],a⟩,(number s (s.length+1) 0 a).2)
 else if small c=true then (⟨if words.contains (gm s a)=true then 3 else 2,0,gm s a,a⟩,fE s a)
 else match cl.find? (bT s a) with
  | some x=>(⟨3,0,x,a⟩,a+x.length)
  | none=>(⟨0,0,[],0⟩,a)
def sA (s:ae):Nat->Nat->List Tok->Option (List Tok)
 | 0,_,_=>none
 | f+1,a,acc=>match s[a]? with
  | none=>some acc
  | some c=>sA s f (skip s (s.length+1) (ko s a c).2).1 (acc++[(ko s a c).1])
def jV (s:ae):Option (List Tok):=sA s (s.length+2) (skip s (s.length+1) 0).1 []
def word (s:ae):Bool:=s.all eI&&(match s with | []=>false | c::_=>small c)
def bs (s:ae):Bool:=word s&&decide (s.length<=12)&&!(words.contains s)
theorem yK (s:ae):∀ (f:Nat) (n:Int) (a:Nat),a<=s.length->s.length < f+a->(∀ c,s[(number s f n a).2]?=some c->eS c=false)/\a<=(number s f n a).2/\(number s f n a).2<=s.length
 | 0,n,a,I,M=>by omega
 | f+1,n,a,I,M=>by
  rw [number]
  cases hc:s[a]? with
  | none=>exact ⟨fun c h=>(by rw [hc] at h;cases h),aD _,I⟩
  | some c =>
   simp only;have aj:=(bq hc).1
   by_cases hd:eS c=true
   ·rw [ab hd];obtain ⟨h3,h4,h5⟩:=yK s f (if n<=2147483647 then n * 10+((c.toNat:Int) - 48) else n) (a+1) aq aq;exact ⟨h3,by omega,h5⟩
   ·exact zdO
theorem rC (s:ae) (p:UInt8->Bool):∀ (f:Nat) (a:Nat),a<=s.length->s.length < f+a->(∀ c,s[run s p f a]?=some c->p c=false)/\a<=run s p f a/\run s p f a<=s.length
 | 0,a,I,M=>by omega
 | f+1,a,I,M=>by
  rw [run]
  cases hc:s[a]? with
  | none=>exact ⟨fun c h=>(by rw [hc] at h;cases h),aD _,I⟩
  | some c =>
   simp only;have aj:=(bq hc).1
   by_cases hd:p c=true
   ·rw [ab hd];obtain ⟨h3,h4,h5⟩:=rC s p f (a+1) aq aq;exact ⟨h3,by omega,h5⟩
   ·exact zdO
theorem A8 (s:ae):∀ (f a:Nat),a<=s.length->a<=(skip s f a).1/\(skip s f a).1<=s.length
 | 0,a,h=>⟨aD _,h⟩
 | f+1,a,h=>by
  rw [skip]
  cases hc:s[a]? with
  | none=>exact ze0
  | some c =>
   simp only;have aj:=(bq hc).1;split
   ·have:=A8 s f (a+1) aj;omega
   ·split
    ·rename_i hb;have hb:=la hb;have hb:a+2<=s.length:=hb;have I:=uI s s.length (a+2) hb;have M:=tG s s.length (a+2) hb aq;split
     ·exact ze0
     ·rename_i hn
      have h3:bT s (fP s s.length (a+2)) [42,47]=true:=by
       cases rl:bT s (fP s s.length (a+2)) [42,47] with
       | true=>rfl
       | false=>exact absurd ⟨by omega,rl⟩ M
      have h3:=la h3;have h3:fP s s.length (a+2)+2<=s.length:=h3;have:=A8 s f (fP s s.length (a+2)+2) h3;omega
    ·exact ze0
theorem qN {d:Nat} {p q:RS} {t:T} (hp:p.ok) (h:mX d p=some (t,q)):p.to q:=(wD _).1 _ _ _ _ hp h
theorem MX:∀ (f:Nat),(∀ j p t q,p.ok->(∀ a d,j=.cond a d->p.i < p.l.length)->mS f j p=some (t,q)->p.to q)/\(∀ d acc p l q,p.ok->mB f d acc p=some (l,q)->p.to q)
 | 0=>⟨fun j p t q _ _ h=>by simp [mS] at h,fun d acc p l q _ h=>by simp [mB] at h⟩
 | f+1=>by
  obtain ⟨I,M⟩:=MX f
  have dY:∀ d (p:RS) t q,p.ok->mS f (.block d) p=some (t,q)->p.to q:=fun d p t q hp h=>I _ _ _ _ hp (fun a d' h=>by cases h) h
  refine ⟨fun j p t q hp oR h=>?_,fun d acc p l q hp h=>?_⟩
  ·cases j with
   | block d =>
    rw [mS] at h;have hd:=qa hp d;refine hd.trans ?_;have mo:=hd.ok hp;generalize p.deep d=p at *
    try simp only at h
    have hm:=gz mo (s:=[123]) av;split at h
    ·cases h
    ·rename_i l p' he;have:=hm.trans (M _ _ _ _ _ (hm.ok mo) he)
     cases h;exact zbR
   | stmt d =>
    rw [mS] at h;have hd:=qa hp d;refine hd.trans ?_;have mo:=hd.ok hp;generalize p.deep d=p at *
    try simp only at h
    split at h
    ·rename_i hs;have hn:=kH hs av;have fm:=hn.trans (tt (hn.ok mo));have lD:=fm.trans (gz (fm.ok mo) (s:=[61]) av);split at h
     ·cases h
     ·rename_i e p' he;have:=lD.trans (qN (lD.ok mo) he)
      cases h;exact zbR
    ·split at h
     ·rename_i hs;refine I _ _ _ _ mo (fun a d' _=>?_) h
      rcases hs with hs | hs
      ·exact (gS hs av).1
      ·exact (gS hs av).1
     ·split at h
      ·rename_i hs;have hn:=kH hs av;split at h
       ·cases h
       ·rename_i e p' he;have:=hn.trans (qN (hn.ok mo) he)
        cases h;exact zbR
      ·split at h
       ·have fm:=tt mo;have lD:=fm.trans (gz (fm.ok mo) (s:=[61]) av);split at h
        ·cases h
        ·rename_i e p' he;have:=lD.trans (qN (lD.ok mo) he)
         cases h;exact zbR
       ·split at h
        ·cases h
        ·rename_i e p' he;have hx:=qN mo he;split at h
         ·rename_i hs;have hn:=hx.trans (kH hs.2.2 av);split at h
          ·rename_i a r v p2 hk rm;have:=hn.trans (qN (hn.ok mo) rm)
           cases h;exact zbR
          ·cases h
         ·cases h;exact hx.trans (gz (hx.ok mo) av)
   | cond a d =>
    rw [mS] at h;have hn:=ek (oR a d rfl);have hm:=hn.trans (gz (hn.ok hp) (s:=[40]) av)
    try simp only at h
    split at h
    ·cases h
    ·rename_i e p' he;have hx:=hm.trans (qN (hm.ok hp) he);have rn:=hx.trans (gz (hx.ok hp) (s:=[41]) av);split at h
     ·cases h
     ·rename_i b p2 hb;have fJ:=rn.trans (dY _ _ _ _ (rn.ok hp) hb);split at h
      ·rename_i hs;have b8:=fJ.trans (kH hs.2 av);split at h
       ·cases h
       ·rename_i b2 p3 zJ
        cases h;exact b8.trans (dY _ _ _ _ (b8.ok hp) zJ)
      ·cases h;exact fJ
  ·rw [mB] at h;split at h
   ·split at h
    ·cases h
    ·rename_i a p' he;have:=I _ _ _ _ hp (fun a d' h=>by cases h) he;exact zdK
   ·cases h;exact lx hp
structure Fn where
 name:ae
 params:List ae
 body:Int
structure Src where
 globals:List ae
 arrays:List Ar
 fns:List Fn
 nodes:List Nd
def oz (k:Int):Bool:=decide ((1:Int)<=k)&&decide (k<=6)
def iT (k:Int):Bool:=decide ((7:Int)<=k)&&decide (k<=13)
def bE (from_:Nat):Nat->List T->Bool
 | _,[]=>true
 | i,t::r=>(if i < from_ then oz t.n.kind else t.n.kind==14)&&bE from_ (i+1) r
def eP (s:ae):Bool:=levels.any fun l=>l.contains s
mutual
def sub (nodes:List Nd):Nat->Nat->Option T
 | 0,_=>none
 | f+1,a=>match nodes[a]? with
  | none=>none
  | some n=>match qn nodes f n.kids [] with
   | none=>none
   | some l=>some (.mk n l)
def qn (nodes:List Nd):Nat->List Int->List T->Option (List T)
 | _,[],acc=>some acc
 | 0,_::_,_=>none
 | f+1,k::r,acc=>if k < 0 then none else match sub nodes f k.toNat with
  | none=>none
  | some t=>qn nodes f r (acc++[t])
end
mutual
def qk (nodes:List Nd):Nat->Nat->Nat->Option Int
 | 0,_,_=>none
 | f+1,a,d=>if nodes.length<=a\/d > 800 then some (-1) else match nodes[a]? with
  | none=>none
  | some n=>pb nodes f n.kids (a+1) d
def pb (nodes:List Nd):Nat->List Int->Int->Nat->Option Int
 | _,[],next,_=>some next
 | 0,_::_,_,_=>none
 | f+1,k::r,next,d=>if k=next then match qk nodes f k.toNat (d+1) with
   | none=>none
   | some e=>if e < 0 then some (-1) else pb nodes f r e d
  else some (-1)
end
def own (n:Nd) (k:Nat) (kd:Nat->Bool) (bl:Bool):Bool :=
 if decide (n.at_ < 0) then false else if n.kind != 1&&n.n != 0 then false
 else if n.kind==1 then decide ((0:Int)<=n.n)&&(decide (n.n<=2147483647)&&(n.s==[]&&(k:Int)==0))
 else if n.kind==2 then bs n.s&&(k:Int)==0
 else if n.kind==3 || n.kind==7 || n.kind==13 then bs n.s&&((k:Int)==1&&kd 1)
 else if n.kind==4 then bs n.s&&kd k
 else if n.kind==5 then (n.s==[45] || n.s==[33] || n.s==[126])&&((k:Int)==1&&kd 1)
 else if n.kind==6 then eP n.s&&((k:Int)==2&&kd 2)
 else if n.kind==8 then bs n.s&&((k:Int)==2&&kd 2)
 else if n.kind==9 then n.s==[]&&(((k:Int)==2 || (k:Int)==3)&&kd 1)
 else if n.kind==10 then n.s==[]&&((k:Int)==2&&kd 1)
 else if n.kind==11 || n.kind==12 then n.s==[]&&((k:Int)==1&&kd 1)
 else if n.kind==14 then bl&&n.s==[]
 else false
def cv (t:T):Bool:=own t.n t.kids.length (fun m=>bE m 0 t.kids) (t.kids.all fun x=>iT x.n.kind)
mutual
def dO:T->Bool
 | .mk n l=>cE l&&cv (.mk n l)
def cE:List T->Bool
 | []=>true
 | t::r=>dO t&&cE r
end
mutual
def IH:T->Prop
 | .mk n l=>n.s.length<=1099511627776/\l.length<=1099511627776/\yT l
def yT:List T->Prop
 | []=>True
 | t::r=>IH t/\yT r
end
theorem IJ:∀ {l:List T} {t:T},yT l->t∈l->IH t
 | [],_,_,h=>by cases h
 | a::r,t,h,hm=>by
  rw [yT] at h
  rcases List.mem_cons.mp hm with rfl | hm
  ·exact h.1
  ·exact IJ h.2 hm
theorem II:∀ {l:List T} {t:T},yT l->IH t->yT (l++[t])
 | [],t,_,ht=>⟨ht,trivial⟩
 | a::r,t,h,ht=>by
  rw [yT] at h;exact ⟨h.1,II h.2 ht⟩
theorem Zd {nodes:List Nd} (hk:∀ n∈nodes,n.s.length<=1099511627776/\n.kids.length<=1099511627776):∀ f:Nat,(∀ a t,sub nodes f a=some t->IH t)/\(∀ ks acc l,qn nodes f ks acc=some l->acc.length+ks.length=l.length/\(yT acc->yT l)):=by
 intro f
 induction f with
 | zero =>
  refine ⟨fun a t h=>by simp [sub] at h,fun ks acc l h=>?_⟩
  cases ks with
  | nil=>rw [qn] at h;cases h;exact ⟨by simp,id⟩
  | cons k r=>simp [qn] at h
 | succ f ih =>
  constructor
  ·intro a t h;rw [sub] at h
   cases hn:nodes[a]? with
   | none=>exact zdY
   | some n =>
   rw [hn] at h;simp only at h
   cases hs:qn nodes f n.kids [] with
   | none=>rw [hs] at h;cases h
   | some l =>
   rw [hs] at h;cases h;have hi:=ih.2 _ _ _ hs;have hb:=hk n (br hn);exact ⟨hb.1,by have:=hi.1;simp at this;omega,hi.2 trivial⟩
  ·intro ks acc l h
   cases ks with
   | nil=>rw [qn] at h;cases h;exact ⟨by simp,id⟩
   | cons k r =>
    rw [qn] at h
    by_cases BE:k < 0
    ·rw [ab BE] at h;cases h
    rw [F BE] at h
    cases hs:sub nodes f k.toNat with
    | none=>rw [hs] at h;cases h
    | some t =>
    rw [hs] at h;simp only at h;have M:=ih.2 _ _ _ h;refine ⟨by have:=M.1;simp at this |-;omega,fun ha=>M.2 (II ha (ih.1 _ _ hs))⟩
def da:List ae->Bool:=fun l=>l.all bs
def o7 (a:Ar):Bool:=bs a.name&&!(decide (a.size < 0))&&!(decide (2147483647 < a.size))
def fN (nodes:List Nd):Nat:=2 * nodes.length+4
def iK (nodes:List Nd):List Fn->Int->Option (Option Int)
 | [],next=>some (some next)
 | f::r,next=>match qk nodes (fN nodes) next.toNat 0 with
  | none=>none
  | some e=>if f.body≠next\/bs f.name=false\/e < 0 then some none else if da f.params=false then some none else match sub nodes (fN nodes) next.toNat with
   | none=>none
   | some t=>if t.n.kind≠14\/dO t=false then some none else iK nodes r e
def p8 (p:Src):Option Bool :=
 if da p.globals=false then some false else if p.arrays.all o7=false then some false else match iK p.nodes p.fns 0 with
  | none=>none
  | some none=>some false
  | some (some next)=>some (next==(p.nodes.length:Int)&&decide (next<=800))
end Go.Sp
namespace Go.Xp
theorem Ey {e:Int} {s:ae} {ts r:List Tok} (h:aV e s ts=.ok r):r=ts.tail/\sign ts 0=s:=by
 unfold aV at h;split at h
 ·cases h;exact ⟨rfl,by assumption⟩
 ·cases h
theorem yE {e:Int} {s:ae} {ts r:List Tok} (h:aV e s ts=.ok r):r.length<=ts.length:=by
 rw [(Ey h).1,List.length_tail];omega
theorem A1 {e:Int} {s:ae} {ts r:List Tok} (hs:s≠[]) (h:aV e s ts=.ok r):r.length < ts.length:=by
 obtain ⟨I,M⟩:=Ey h;rw [I,List.length_tail]
 cases ts with
 | nil=>exact absurd M.symm hs
 | cons=>simp
theorem gS {s:ae} {ts:List Tok} (hs:s≠[]) (h:sign ts 0=s):ts.tail.length < ts.length:=by
 cases ts with
 | nil=>exact absurd h.symm hs
 | cons=>simp
theorem rz {e:Int} {s:ae} {ts:List Tok} {x:Er} (h:aV e s ts=.error x):x≠bf:=by
 unfold aV at h;split at h
 ·cases h
 ·cases h;intro h0;cases h0
theorem Ig {e:Int} {s:ae} {ts r:List Tok} (h:name e ts=.ok (s,r)):r.length < ts.length:=by
 unfold name at h;split at h
 ·cases h
 ·split at h
  ·split at h
   ·cases h
   ·cases h;simp
  ·cases h
theorem Lh {e:Int} {ts:List Tok} {x:Er} (h:name e ts=.error x):x≠bf:=by
 unfold name at h;split at h
 ·cases h;intro h0;cases h0
 ·split at h
  ·split at h <;> cases h;intro h0;cases h0
  ·cases h;intro h0;cases h0
def ql:qp->Nat->Nat
 | .operand _,n=>20 * n+1
 | .loop _ _ _,n=>20 * n+1
 | .level k _,n=>20 * n+2+(9 - k)
 | .expr _,n=>20 * n+12
def yH (acc:List T) (n:Nat):Nat:=match acc with | []=>20 * n+14 | _=>20 * n+1
def MJ:qp->Prop
 | .level k _=>k<=9
 | .loop k _ _=>k < 9
 | _=>True
def good (e:Int) (f:Nat) (j:qp) (ts:List Tok):Prop :=
 MJ j->(∀ t r,rd e f j ts=.ok (t,r)->r.length<=ts.length)/\(ql j ts.length<=f->rd e f j ts≠.error bf)
def T8 (e:Int) (f deep:Nat) (acc:List T) (ts:List Tok):Prop :=
 (∀ t r,rd.args e f deep acc ts=.ok (t,r)->r.length<=ts.length)/\(yH acc ts.length<=f->rd.args e f deep acc ts≠.error bf)
theorem er7 {a:Int}:((7,a):Er)≠bf:=by intro h;cases h
theorem er9 {a:Int}:((9,a):Er)≠bf:=by intro h;cases h
theorem EE (e:Int):∀ f,(∀ j ts,good e f j ts)/\(∀ deep acc ts,T8 e f deep acc ts)
 | 0=>by
  refine ⟨fun j ts _=>⟨fun t r h=>?_,fun h=>?_⟩,fun deep acc ts=>⟨fun t r h=>?_,fun h=>?_⟩⟩
  ·rw [rd] at h;cases h
  ·cases j <;> simp only [ql] at h <;> omega
  ·rw [rd.args] at h;cases h
  ·unfold yH at h;split at h <;> omega
 | f+1=>by
  obtain ⟨ih,z7⟩:=EE e f;constructor
  ·intro j ts hj
   cases j with
   | expr deep =>
    obtain ⟨I,M⟩:=ih (.level 0 (deep+1)) ts (aO _);rw [rd];split
    ·exact zba
    ·exact zfC
   | level k deep =>
    have hj:k<=9:=hj;rw [rd];split
    ·obtain ⟨I,M⟩:=ih (.operand deep) ts trivial;exact zfC
    ·obtain ⟨I,M⟩:=ih (.level (k+1) deep) ts (by show k+1<=9;omega);split
     ·rename_i x hx;exact ⟨fun t r h=>zfS,fun h h0=>M (by simp only [ql] at h |-;omega) (hx.trans h0)⟩
     ·rename_i out kg hx;obtain ⟨h3,h4⟩:=ih (.loop k deep out) kg (by show k < 9;omega);have:=I _ _ hx;exact ⟨fun t r h=>jO (h3 t r h) this,fun h=>h4 (by simp only [ql] at h |-;omega)⟩
   | loop k deep out =>
    have hj:k < 9:=hj
    cases ts with
    | nil=>rw [rd];exact zeu
    | cons t0 r0 =>
     rw [rd];split
     ·obtain ⟨I,M⟩:=ih (.level (k+1) deep) r0 (by show k+1<=9;omega);split
      ·exact zat
      ·rename_i b r hx;obtain ⟨h3,h4⟩:=ih (.loop k deep (one 6 t0.at_ t0.s [out,b])) r hj;have:=I _ _ hx;exact ⟨fun t r h=>by have:=h3 t r h;simp only [length_cons];omega,fun h=>h4 (by simp only [ql,length_cons] at h |-;omega)⟩
     ·exact zeu
   | operand deep =>
    cases ts with
    | nil=>rw [rd];split <;> exact ⟨fun t r h=>zfS,fun _ h=>zfS⟩
    | cons t0 r0 =>
    rw [rd];split
    ·exact zba
    split
    ·split
     ·obtain ⟨I,M⟩:=ih (.operand (deep+1)) r0 trivial;split
      ·exact zat
      ·rename_i a r hx;have:=I _ _ hx;exact zaA
     split
     ·obtain ⟨I,M⟩:=ih (.expr (deep+1)) r0 trivial;split
      ·exact zat
      ·rename_i a r hx;have:=I _ _ hx;split
       ·exact zaD
       ·rename_i r' hm;have:=yE hm;exact zaA
     ·exact zba
    split
    ·exact ze9
    split
    ·rename_i x hm;exact ⟨fun t r h=>zfS,fun _ h=>Lh hm zgN⟩
    ·rename_i s r hn;have hl:=Ig hn;simp only [length_cons] at hl
     have aj:r.tail.length<=r.length:=by simp
     split
     ·obtain ⟨I,M⟩:=ih (.expr (deep+1)) r.tail trivial;split
      ·exact zat
      ·rename_i a r' hx;have:=I _ _ hx;split
       ·exact zaD
       ·rename_i r'' hm;have:=yE hm;exact zaA
     split
     ·obtain ⟨I,M⟩:=z7 (deep+1) [] r.tail;split
      ·rename_i x hx;exact ⟨fun t r h=>zfS,fun h h0=>M (by simp only [ql,yH,length_cons] at h |-;omega) (hx.trans (by cases h0;rfl))⟩
      ·rename_i a r' hx;have:=I _ _ hx;exact zaA
     ·exact zaA
  ·intro deep acc ts;unfold T8;rw [rd.args];split
   ·exact ze9
   ·by_cases mT:acc=[]
    ·subst mT;simp only [if_true];obtain ⟨I,M⟩:=ih (.expr deep) ts trivial;split
     ·rename_i x hx;exact ⟨fun t r h=>zfS,fun h h0=>M (by simp only [ql,yH] at h |-;omega) (hx.trans (by cases h0;rfl))⟩
     ·rename_i a r hx;have:=I _ _ hx;obtain ⟨h3,h4⟩:=z7 deep ([]++[a]) r;exact ⟨fun t r h=>by have:=h3 t r h;omega,fun h=>h4 (by simp only [nil_append,yH] at h |-;omega)⟩
    ·rw [F mT]
     have KK:∀ n,yH acc n=20 * n+1:=by cases acc with | nil=>exact absurd rfl mT | cons=>exact fun _=>rfl
     split
     ·exact zaD
     ·rename_i kg hm;have aj:=A1 av hm;obtain ⟨I,M⟩:=ih (.expr deep) kg trivial;split
      ·rename_i x hx;exact ⟨fun t r h=>zfS,fun h h0=>M (by simp only [ql,KK] at h |-;omega) (hx.trans (by cases h0;rfl))⟩
      ·rename_i a r hx;have:=I _ _ hx;obtain ⟨h3,h4⟩:=z7 deep (acc++[a]) r
       have abz:yH (acc++[a]) r.length=20 * r.length+1:=by
        cases acc with
        | nil=>exact absurd rfl mT
        | cons=>rfl
       exact ⟨fun t r h=>by have:=h3 t r h;omega,fun h=>h4 (by rw [abz] ;simp only [KK] at h;omega)⟩
theorem YX {e:Int} {f:Nat} {j:qp} {ts:List Tok} {t:T} {r:List Tok} (hj:MJ j) (h:rd e f j ts=.ok (t,r)):r.length<=ts.length:=((EE e f).1 j ts hj).1 t r h
theorem A5 {e:Int} {f:Nat} {j:qp} {ts:List Tok} (hj:MJ j) (h:ql j ts.length<=f):rd e f j ts≠.error bf:=((EE e f).1 j ts hj).2 h
theorem Fg {e:Int} {deep:Nat} {ts:List Tok}:expr e deep ts≠.error bf:=A5 (j:=.expr deep) trivial (by simp only [ql,ot];omega)
theorem Ce {e:Int} {deep:Nat} {ts:List Tok} {t:T} {r:List Tok} (h:expr e deep ts=.ok (t,r)):r.length<=ts.length:=YX (j:=.expr deep) trivial h
theorem Co {e:Int} {deep:Nat} {a b:ae} {ts r:List Tok} {t:T} (ha:a≠[]) (h:inner e deep a b ts=.ok (t,r)):r.length < ts.length:=by
 unfold inner at h;split at h
 ·cases h
 ·rename_i t1 I;split at h
  ·cases h
  ·rename_i a1 t2 M;split at h
   ·cases h
   ·rename_i t3 h3;cases h;have:=A1 ha I;have:=Ce M;have:=yE h3;omega
theorem Cn {e:Int} {deep:Nat} {a b:ae} {ts:List Tok} {x:Er} (h:inner e deep a b ts=.error x):x≠bf:=by
 unfold inner at h;split at h
 ·rename_i I;cases h;exact rz I
 ·split at h
  ·rename_i x2 M;cases h;intro h0;exact Fg (M.trans zfV)
  ·split at h
   ·rename_i h3;cases h;exact rz h3
   ·cases h
theorem IF {e:Int} {deep:Nat} {ts r:List Tok} {t:ae × T} (h:mF e deep ts=.ok (t,r)):r.length < ts.length:=by
 unfold mF at h;split at h
 ·cases h
 ·rename_i s t1 I;split at h
  ·cases h
  ·rename_i a t2 M;cases h;have:=Ig I;have:=Co av M;omega
theorem ID {e:Int} {deep:Nat} {ts:List Tok} {x:Er} (h:mF e deep ts=.error x):x≠bf:=by
 unfold mF at h;split at h
 ·rename_i I;cases h;exact Lh I
 ·split at h
  ·rename_i M;cases h;exact Cn M
  ·cases h
theorem Cd {e:Int} {deep:Nat} {ts:List Tok} {x:Er} (h:expr e deep ts=.error x):x≠bf:=fun h0=>Fg (h.trans zfV)
theorem QG {e:Int} {deep:Nat} {ts r:List Tok} {t:T} (h:simple e deep ts=.ok (t,r)):r.length < ts.length:=by
 unfold simple at h;split at h
 ·exact zfb
 ·rename_i t0 r0;split at h
  ·split at h
   ·cases h
   ·rename_i s a t1 I;cases h;exact IF I
  ·split at h
   ·cases h
   ·rename_i a t1 I;have:=Ce I;split at h
    ·split at h
     ·cases h
     ·rename_i v t2 M;cases h;have:=Co av M;omega
    ·split at h
     ·cases h
     ·rename_i t2 M;cases h;have:=A1 av M;omega
theorem QF {e:Int} {deep:Nat} {ts:List Tok} {x:Er} (h:simple e deep ts=.error x):x≠bf:=by
 unfold simple at h;split at h
 ·split at h
  ·rename_i I;cases h;exact Cd I
  ·cases h;exact er7
 ·split at h
  ·split at h
   ·rename_i I;cases h;exact ID I
   ·cases h
  ·split at h
   ·rename_i I;cases h;exact Cd I
   ·split at h
    ·split at h
     ·rename_i M;cases h;exact Cn M
     ·cases h
    ·split at h
     ·rename_i M;cases h;exact rz M
     ·cases h
def Ua (e:Int) (f:Nat) (j:sN) (ts:List Tok):Prop :=
 (∀ t r,rs e f j ts=.ok (t,r)->r.length < ts.length)/\(3 * ts.length+1<=f->rs e f j ts≠.error bf)
def T9 (e:Int) (f deep:Nat) (acc:List T) (ts:List Tok):Prop :=
 (∀ t r,rs.body e f deep acc ts=.ok (t,r)->r.length < ts.length)/\(3 * ts.length+2<=f->rs.body e f deep acc ts≠.error bf)
theorem EH (e:Int):∀ f,(∀ j ts,Ua e f j ts)/\(∀ deep acc ts,T9 e f deep acc ts)
 | 0=>by
  refine ⟨fun j ts=>⟨fun t r h=>?_,fun h=>by omega⟩,fun deep acc ts=>⟨fun t r h=>?_,fun h=>by omega⟩⟩
  ·rw [rs] at h;cases h
  ·rw [rs.body] at h;cases h
 | f+1=>by
  obtain ⟨ih,z7⟩:=EH e f;constructor
  ·intro j ts;unfold Ua
   cases j with
   | block deep =>
    rw [rs];split
    ·exact zba
    ·split
     ·exact zaD
     ·rename_i r0 hm;have h0:=A1 av hm;obtain ⟨I,M⟩:=z7 (deep+1) [] r0;split
      ·exact zc9
      ·rename_i l r hx;have:=I _ _ hx;exact zaG
   | stmt deep =>
    rw [rs];split
    ·exact zba
    ·simp only;split
     ·rename_i hv;have h0:=gS av hv;split
      ·rename_i x hx;exact ⟨fun t r h=>zfS,fun _ h=>ID hx zgN⟩
      ·rename_i s a t1 hx;have:=IF hx;exact zaG
     split
     ·rename_i hv
      have h0:ts.tail.length < ts.length:=by
       rcases hv with hv | hv <;> exact gS av hv
      split
      ·rename_i x hx;exact ⟨fun t r h=>zfS,fun _ h=>Cn hx zgN⟩
      ·rename_i c r1 hx;have hc:=Co av hx;obtain ⟨I,M⟩:=ih (.block (deep+1)) r1;split
       ·rename_i x KR;exact ⟨fun t r h=>zfS,fun h h0=>M aq (KR.trans h0)⟩
       ·rename_i b r2 KR;have hb:=I _ _ KR;split
        ·split
         ·obtain ⟨h3,h4⟩:=ih (.block (deep+1)) r2.tail
          have ht:r2.tail.length<=r2.length:=by simp
          split
          ·rename_i x PE;exact ⟨fun t r h=>zfS,fun h h0=>h4 aq (PE.trans h0)⟩
          ·rename_i b2 r3 PE;have:=h3 _ _ PE;exact zaG
         ·exact zaG
        ·exact zaG
     split
     ·rename_i hv;have h0:=gS av hv;split
      ·rename_i x hx;exact ⟨fun t r h=>zfS,fun _ h=>Cd hx zgN⟩
      ·rename_i a r1 hx;have:=Ce hx;split
       ·exact zaD
       ·rename_i r2 hm;have:=yE hm;exact zaG
     ·exact ⟨fun t r h=>QG h,fun _ h=>QF h rfl⟩
  ·intro deep acc ts;unfold T9;rw [rs.body];split
   ·rename_i hv;have h0:=gS av hv;exact ⟨fun t r h=>(by cases h;exact h0),fun _ h=>zfS⟩
   ·obtain ⟨I,M⟩:=ih (.stmt deep) ts;split
    ·exact zc9
    ·rename_i a r hx;have:=I _ _ hx;obtain ⟨h3,h4⟩:=z7 deep (acc++[a]) r;exact ⟨fun t r h=>by have:=h3 t r h;omega,fun h=>h4 aq⟩
theorem YZ {e:Int} {f:Nat} {j:sN} {ts:List Tok} {t:T} {r:List Tok} (h:rs e f j ts=.ok (t,r)):r.length < ts.length:=((EH e f).1 j ts).1 t r h
theorem ye {e:Int} {deep:Nat} {ts:List Tok}:block e deep ts≠.error bf:=((EH e _).1 (.block deep) ts).2 (by simp only [ot];omega)
theorem aaA {e:Int} {deep:Nat} {ts:List Tok} {t:T} {r:List Tok} (h:block e deep ts=.ok (t,r)):r.length < ts.length:=YZ h
end Go.Xp
namespace Go.Sp
open Go.Xp
structure On (p:RS) (ts:List Tok):Prop where
 code:p.code=0
 le:p.i<=p.l.length
 rest:p.l.drop p.i=ts
 kinds:∀ t∈p.l,t.kind=1\/t.kind=2\/t.kind=3
def cj (p q:RS):Except Er (List Tok)->Prop
 | .ok r=>On q r/\q.l=p.l/\q.e=p.e
 | .error x=>q.code=x.1/\x.1≠0/\q.at_=x.2/\q.l=p.l/\q.e=p.e
def kx {α:Type} (p q:RS) (t:α):Rd α->Prop
 | .ok (t',r)=>t=t'/\cj p q (.ok r)
 | .error x=>cj p q (.error x)
section
variable {p q q':RS} {ts r:List Tok} {x:Er}
theorem cj.err (h:cj p q (.error x)):q.code≠0:=by rw [h.1];exact h.2.1
theorem cj.tr {y:Except Er (List Tok)} (h:cj p q (.ok r)) (k:cj q q' y):cj p q' y:=by
 obtain ⟨_,I,M⟩:=h
 cases y with
 | ok r=>exact ⟨k.1,k.2.1.trans I,k.2.2.trans M⟩
 | error x=>exact ⟨k.1,k.2.1,k.2.2.1,k.2.2.2.1.trans I,k.2.2.2.2.trans M⟩
theorem kx.tr {α:Type} {t:α} {y:Rd α} (h:cj p q (.ok r)) (k:kx q q' t y):kx p q' t y:=by
 cases y with
 | ok r=>obtain ⟨t',r⟩:=r;exact ⟨k.1,h.tr k.2⟩
 | error x=>exact h.tr (y:=.error x) k
theorem On.self (h:On p ts):cj p p (.ok ts):=⟨h,rfl,rfl⟩
theorem On.at (h:On p ts) (k:Nat):p.l[p.i+k]?=ts[k]?:=by rw [<-h.rest,List.getElem?_drop]
theorem On.sign (h:On p ts) (k:Nat):p.sign k=Go.Xp.sign ts k:=by
 unfold RS.sign Go.Xp.sign;rw [ab h.code,h.at]
 all_goals (cases ts[k]? <;> rfl)
theorem On.place (h:On p ts):p.place=Go.Xp.place p.e ts:=by
 have h0:=h.at 0;unfold RS.place;rw [Nat.add_zero] at h0;rw [h0]
 cases ts with
 | nil=>rfl
 | cons t r=>rfl
theorem On.next {t:Tok} (h:On p (t::r)):cj p p.next (.ok r):=by
 have I:p.i < p.l.length:=by
  have:=congrArg List.length h.rest;simp at this;omega
 refine ⟨⟨h.code,I,?_,h.kinds⟩,rfl,rfl⟩;show p.l.drop (p.i+1)=r;rw [<-List.tail_drop,h.rest];rfl
theorem On.fail (h:On p ts) (c a:Int) (hc:c≠0):cj p (p.fail c a) (.error (c,a)):=by
 unfold RS.fail;rw [ab h.code];exact ⟨rfl,hc,rfl,rfl,rfl⟩
theorem vj (h:p.code≠0) (c a:Int):p.fail c a=p:=by unfold RS.fail;rw [F h]
theorem mZ (h:p.code≠0) (k:Nat):p.sign k=[]:=by unfold RS.sign;rw [F h]
theorem iM (h:p.code≠0) {s:ae} (hs:s≠[]):p.aV s=p:=by
 unfold RS.aV;rw [mZ h,F (fun e=>hs e.symm),vj h]
theorem sR (h:p.code≠0) (d:Nat):p.deep d=p:=by unfold RS.deep;split <;> simp [vj h]
theorem ej {s:ae} (hs:s≠[]) (h:Go.Xp.sign ts 0=s):∃ t,ts=t::ts.tail/\t.kind=3/\t.s=s:=by
 cases ts with
 | nil=>exact absurd h.symm hs
 | cons t r =>
  refine ⟨t,rfl,?_⟩;simp only [Go.Xp.sign,getElem?_cons_zero,bD] at h;split at h
  ·exact ⟨by assumption,h⟩
  ·exact absurd h.symm hs
theorem On.aV (h:On p ts) {s:ae} (hs:s≠[]):cj p (p.aV s) (Go.Xp.aV p.e s ts):=by
 unfold RS.aV Go.Xp.aV;rw [h.sign]
 by_cases h0:Go.Xp.sign ts 0=s
 ·rw [ab h0,ab h0];obtain ⟨t,ht,_⟩:=ej hs h0;rw [ht] at h
  exact h.next
 ·rw [F h0,F h0,h.place];exact h.fail 7 _ av
theorem On.name (h:On p ts):kx p p.name.2 p.name.1 (Go.Xp.name p.e ts)\/∃ x,Go.Xp.name p.e ts=.error x/\cj p p.name.2 (.error x):=by
 have h0:=h.at 0;rw [Nat.add_zero] at h0;unfold RS.name;rw [ab h.code,h0]
 cases ts with
 | nil=>exact .inr ⟨_,rfl,by rw [h.place];exact h.fail 7 _ av⟩
 | cons t r =>
  simp only [getElem?_cons_zero,Go.Xp.name];split
  ·split
   ·exact .inr ⟨_,rfl,h.fail 8 _ av⟩
   ·exact .inl ⟨rfl,h.next⟩
  ·refine .inr ⟨_,rfl,?_⟩;have:p.place=t.at_:=h.place;rw [this];exact h.fail 7 _ av
end
theorem Dt {p:RS} (h:p.code≠0):(∀ g d,1<=g->mE g (.operand d) p=some (T.zero,p))/\(∀ g k d out,1<=g->mE g (.loop k d out) p=some (out,p))/\(∀ n g k d,k+n=9->n+2<=g->mE g (.level k d) p=some (T.zero,p)):=by
 have I:∀ g d,1<=g->mE g (.operand d) p=some (T.zero,p):=by
  intro g d hg
  cases g with
  | zero=>omega
  | succ g=>rw [mE];simp [sR h,h,vj h]
 have M:∀ g k d out,1<=g->mE g (.loop k d out) p=some (out,p):=by
  intro g k d out hg
  cases g with
  | zero=>omega
  | succ g=>rw [mE];simp [h]
 refine ⟨I,M,fun n=>?_⟩
 induction n with
 | zero =>
  intro g k d hk hg
  cases g with
  | zero=>omega
  | succ g=>rw [mE,ab aq];exact I g _ aq
 | succ n ih =>
  intro g k d hk hg
  cases g with
  | zero=>omega
  | succ g =>
   rw [mE,F aq,ih g (k+1) d aq aq];exact M g _ _ _ aq
theorem YD {p:RS} (h:p.code≠0) {g d:Nat} (hg:12<=g):mE g (.expr d) p=some (T.zero,p):=by
 cases g with
 | zero=>omega
 | succ g=>rw [mE,sR h];exact (Dt h).2.2 9 g 0 d rfl aq
def KF (f:Nat):Nat:=2 * f+20
structure JE (f:Nat):Prop where
 expr:∀ d ts p,On p ts->rd p.e f (.expr d) ts≠.error bf->∃ t q,(∀ g,KF f<=g->mE g (.expr d) p=some (t,q))/\kx p q t (rd p.e f (.expr d) ts)
 level:∀ k d ts p,k<=9->On p ts->rd p.e f (.level k (d+1)) ts≠.error bf->∃ t q,(∀ g,KF f<=g->mE g (.level k d) p=some (t,q))/\kx p q t (rd p.e f (.level k (d+1)) ts)
 loop:∀ k d out ts p,k < 9->On p ts->rd p.e f (.loop k (d+1) out) ts≠.error bf->∃ t q,(∀ g,KF f<=g->mE g (.loop k d out) p=some (t,q))/\kx p q t (rd p.e f (.loop k (d+1) out) ts)
 operand:∀ d ts p,On p ts->rd p.e f (.operand d) ts≠.error bf->∃ t q,(∀ g,KF f<=g->mE g (.operand d) p=some (t,q))/\kx p q t (rd p.e f (.operand d) ts)
 args:∀ d acc ts p,acc≠[]->On p ts->rd.args p.e f d acc ts≠.error bf->∃ t q,(∀ g,KF f<=g->vE g d acc p=some (t,q))/\kx p q t (rd.args p.e f d acc ts)
 args0:∀ d ts p,On p ts->rd.args p.e f d [] ts≠.error bf->∃ t q,(∀ g,KF f<=g->mL g d p=some (t,q))/\kx p q t (rd.args p.e f d [] ts)
theorem DC:∀ k,(levels.getD k []).contains []=false:=by
 intro k
 have h:∀ l∈levels,l.contains ([]:ae)=false:=by decide
 rw [List.getD_eq_getElem?_getD]
 cases hk:levels[k]? with
 | none=>rfl
 | some l=>exact h l (br hk)
theorem up {f g:Nat} (h:KF (f+1)<=g):∃ g',g=g'+1/\KF f+1<=g':=⟨g - 1,by unfold KF at h;omega,by unfold KF at *;omega⟩
theorem je (f:Nat):JE f:=by
 induction f with
 | zero =>
  refine ⟨fun d ts p _ h=>absurd ?_ h,fun k d ts p _ _ h=>absurd ?_ h,fun k d out ts p _ _ h=>absurd ?_ h,fun d ts p _ h=>absurd ?_ h,fun d acc ts p _ _ h=>absurd ?_ h,fun d ts p _ h=>absurd ?_ h⟩ <;> simp [rd,rd.args]
 | succ f C =>
  refine ⟨fun d ts p hp h=>?_,fun k d ts p hk hp h=>?_,fun k d out ts p hk hp h=>?_,fun d ts p hp h=>?_,fun d acc ts p mT hp h=>?_,fun d ts p hp h=>?_⟩
  ·rw [rd] at h |-
   by_cases hd:d > 60
   ·rw [ab hd] at h |-;have hf:=hp.fail 9 p.place av;refine ⟨T.zero,p.fail 9 p.place,fun g hg=>?_,by rw [<-hp.place];exact hf⟩;obtain ⟨g,rfl,hg⟩:=up hg;rw [mE];unfold RS.deep;rw [ab hd];exact (Dt hf.err).2.2 9 g 0 d rfl zgm
   ·rw [F hd] at h |-;obtain ⟨t,q,I,M⟩:=C.level 0 d ts p aq hp h;refine ⟨t,q,fun g hg=>?_,M⟩;obtain ⟨g,rfl,hg⟩:=up hg;rw [mE];unfold RS.deep;rw [F hd];exact I g aq
  ·rw [rd] at h |-
   by_cases h9:k=9
   ·rw [ab h9] at h |-;obtain ⟨t,q,I,M⟩:=C.operand (d+1) ts p hp h;refine ⟨t,q,fun g hg=>?_,M⟩;obtain ⟨g,rfl,hg⟩:=up hg;rw [mE,ab h9];exact I g aq
   ·rw [F h9] at h |-
    cases he:rd p.e f (.level (k+1) (d+1)) ts with
    | error x =>
     rw [he] at h
     have hx:x≠bf:=fun h0=>h zfV
     obtain ⟨t,q,I,M⟩:=C.level (k+1) d ts p aq hp zfN;rw [he] at M;refine ⟨t,q,fun g hg=>?_,M⟩;obtain ⟨g,rfl,hg⟩:=up hg;rw [mE,F h9,I g aq];exact zfg
    | ok r =>
     obtain ⟨t',r⟩:=r;rw [he] at h;simp only at h |-;obtain ⟨t,q,I,M⟩:=C.level (k+1) d ts p aq hp zfQ;rw [he] at M;obtain ⟨rfl,M⟩:=M;rw [<-M.2.2] at h |-;obtain ⟨t3,q3,h3,h4⟩:=C.loop k d t r q aq M.1 h;refine ⟨t3,q3,fun g hg=>?_,kx.tr M h4⟩;obtain ⟨g,rfl,hg⟩:=up hg;rw [mE,F h9,I g aq];exact h3 g aq
  ·cases ts with
   | nil =>
    rw [rd];refine ⟨out,p,fun g hg=>?_,rfl,hp.self⟩;obtain ⟨g,rfl,hg⟩:=up hg;rw [mE,F];rw [hp.sign];rintro ⟨_,h0⟩;rw [show sign ([]:List Tok) 0=[] from rfl,DC] at h0;cases h0
   | cons t r =>
    rw [rd] at h |-;have hs:p.sign 0=bD t:=hp.sign 0
    by_cases hc:t.kind=3/\t.s∈levels.getD k []
    ·rw [ab hc] at h |-
     have hn:=hp.next
     have uD:p.l[p.i]?=some t:=hp.at 0;have oR:p.code=0/\(levels.getD k []).contains (p.sign 0)=true:=⟨hp.code,by rw [hs];unfold bD;rw [ab hc.1];simpa using hc.2⟩;rw [show p.e=p.next.e from rfl] at h |-
     cases he:rd p.next.e f (.level (k+1) (d+1)) r with
     | error x =>
      rw [he] at h
      have hx:x≠bf:=fun h0=>h zfV
      obtain ⟨b,q,I,M⟩:=C.level (k+1) d r p.next aq hn.1 zfN
      rw [he] at M;refine ⟨one 6 t.at_ t.s [out,b],q,fun g hg=>?_,hn.tr (y:=.error x) M⟩;obtain ⟨g,rfl,hg⟩:=up hg;rw [mE,ab oR,uD];simp only;rw [I g aq];exact zfg
     | ok x =>
      obtain ⟨b',r'⟩:=x;rw [he] at h;simp only at h |-
      obtain ⟨b,q,I,M⟩:=C.level (k+1) d r p.next aq hn.1 zfQ
      rw [he] at M;obtain ⟨rfl,M⟩:=M;rw [<-M.2.2] at h |-;obtain ⟨t3,q3,h3,h4⟩:=C.loop k d (one 6 t.at_ t.s [out,b]) r' q hk M.1 h;refine ⟨t3,q3,fun g hg=>?_,kx.tr (hn.tr M) h4⟩;obtain ⟨g,rfl,hg⟩:=up hg;rw [mE,ab oR,uD];simp only;rw [I g aq];exact h3 g aq
    ·rw [F hc];refine ⟨out,p,fun g hg=>?_,rfl,hp.self⟩;obtain ⟨g,rfl,hg⟩:=up hg;rw [mE,F];rintro ⟨_,h0⟩;rw [hs] at h0;unfold bD at h0;split at h0
     ·rename_i h3;exact hc ⟨h3,by simpa using h0⟩
     ·rw [DC] at h0;cases h0
  ·rw [rd.eq_def] at h |-;simp only at h |-
   by_cases hd:d > 60
   ·rw [ab hd] at h |-;have hf:=hp.fail 9 p.place av;refine ⟨T.zero,p.fail 9 p.place,fun g hg=>?_,by rw [<-hp.place];exact hf⟩;obtain ⟨g,rfl,hg⟩:=up hg;rw [mE];unfold RS.deep;rw [ab hd];simp [hf.err,vj hf.err]
   ·rw [F hd] at h |-
    have eH:p.deep d=p:=by unfold RS.deep;rw [F hd]
    cases ts with
    | nil =>
     simp only;have h0:p.l[p.i]?=none:=hp.at 0;refine ⟨T.zero,p.fail 7 p.place,fun g hg=>?_,?_⟩
     ·obtain ⟨g,rfl,hg⟩:=up hg;rw [mE];simp [eH,hp.code,h0]
     ·rw [hp.place];exact hp.fail 7 _ av
    | cons t r =>
     simp only at h |-;have uD:p.l[p.i]?=some t:=hp.at 0
     have hn:=hp.next
     by_cases h3:t.kind=3
     ·rw [ab h3] at h |-
      have C7:¬ t.kind=1:=by omega
      have O5:¬ t.kind=2:=by omega
      by_cases hu:t.s=[45]\/t.s=[33]\/t.s=[126]
      ·rw [ab hu] at h |-;rw [show p.e=p.next.e from rfl] at h |-
       cases he:rd p.next.e f (.operand (d+1)) r with
       | error x =>
        rw [he] at h
        have hx:x≠bf:=fun h0=>h zfV
        obtain ⟨b,q,I,M⟩:=C.operand (d+1) r p.next hn.1 zfN
        rw [he] at M;refine ⟨one 5 t.at_ t.s [b],q,fun g hg=>?_,hn.tr (y:=.error x) M⟩;exact zc1
       | ok x =>
        obtain ⟨b',r'⟩:=x;rw [he] at h;simp only at h |-
        obtain ⟨b,q,I,M⟩:=C.operand (d+1) r p.next hn.1 zfQ
        rw [he] at M;obtain ⟨rfl,M⟩:=M;refine ⟨one 5 t.at_ t.s [b],q,fun g hg=>?_,rfl,hn.tr M⟩;exact zc1
      ·rw [F hu] at h |-
       by_cases hb:t.s=[40]
       ·rw [ab hb] at h |-;rw [show p.e=p.next.e from rfl] at h |-
        cases he:rd p.next.e f (.expr (d+1)) r with
        | error x =>
         rw [he] at h
         have hx:x≠bf:=fun h0=>h zfV
         obtain ⟨b,q,I,M⟩:=C.expr (d+1) r p.next hn.1 zfN
         rw [he] at M;refine ⟨b,q.aV [41],fun g hg=>?_,?_⟩
         ·exact zcS
         ·rw [iM (cj.err M) av];exact hn.tr (y:=.error x) M
        | ok x =>
         obtain ⟨b',r'⟩:=x;rw [he] at h;simp only at h |-
         obtain ⟨b,q,I,M⟩:=C.expr (d+1) r p.next hn.1 zfQ
         rw [he] at M;obtain ⟨rfl,M⟩:=M;have hm:=M.1.aV (s:=[41]) av;have ba:=(hn.tr M).tr hm;rw [M.2.2] at ba;refine ⟨b,q.aV [41],fun g hg=>?_,?_⟩
         ·exact zcS
         ·cases tU:aV p.next.e [41] r' with
          | error x=>rw [tU] at ba;exact ba
          | ok r2=>exact zdQ
       ·rw [F hb] at h |-;refine ⟨T.zero,p.fail 7 t.at_,fun g hg=>?_,hp.fail 7 _ av⟩;obtain ⟨g,rfl,hg⟩:=up hg;rw [mE];simp only [eH,hp.code,uD,if_true,F C7,F O5,F hu,F hb]
     ·rw [F h3] at h |-
      by_cases I:t.kind=1
      ·rw [ab I];refine ⟨_,p.next,fun g hg=>?_,rfl,hn⟩;obtain ⟨g,rfl,hg⟩:=up hg;rw [mE];simp only [eH,hp.code,uD,if_true,ab I]
      ·rw [F I] at h |-
       by_cases M:t.kind=2
       ·by_cases hlen:t.s.length > 12
        ·have fm:name p.e (t::r)=.error (8,t.at_):=by simp [name,M,hlen]
         rw [fm] at h |-;have hf:=hp.fail 8 t.at_ av;refine ⟨one 2 t.at_ [] [],p.fail 8 t.at_,fun g hg=>?_,hf⟩;obtain ⟨g,rfl,hg⟩:=up hg
         have dK:p.name=([],p.fail 8 t.at_):=by unfold RS.name;simp [hp.code,uD,M,hlen]
         rw [mE];simp only [eH,hp.code,uD,if_true,F I,ab M,dK];obtain ⟨g,rfl⟩:∃ g',g=g'+1:=⟨g - 1,by omega⟩;rw [mE,F (by rw [mZ hf.err];decide),F (by rw [mZ hf.err];decide)]
        ·have fm:name p.e (t::r)=.ok (t.s,r):=by simp [name,M,hlen]
         have dK:p.name=(t.s,p.next):=by unfold RS.name;simp [hp.code,uD,M,hlen]
         rw [fm] at h |-;simp only at h |-
         have eu:p.next.sign 0=sign r 0:=hn.1.sign 0
         have key:∀ (t':T) (q:RS),(∀ g,KF f<=g->mE (g+1) (.named t.at_ t.s d) p.next=some (t',q))->∀ g,KF (f+1)<=g->mE g (.operand d) p=some (t',q):=by
          intro t' q hk g hg;obtain ⟨g,rfl,hg⟩:=up hg;rw [mE];simp only [eH,hp.code,uD,if_true,F I,ab M,dK];exact zev
         by_cases hb:sign r 0=[91]
         ·rw [ab hb] at h |-;obtain ⟨tb,Dn,_⟩:=ej av hb;have b8:=hn.1;rw [Dn] at b8
          have b8:=hn.tr b8.next
          rw [show p.e=p.next.next.e from rfl] at h |-
          cases he:rd p.next.next.e f (.expr (d+1)) r.tail with
          | error x =>
           rw [he] at h
           have hx:x≠bf:=fun h0=>h zfV
           obtain ⟨b,q,k1,k2⟩:=C.expr (d+1) r.tail p.next.next b8.1 zfN
           rw [he] at k2;refine ⟨one 3 t.at_ t.s [b],q.aV [93],key _ _ fun g hg=>?_,?_⟩
           ·rw [mE,ab zgk,k1 g hg]
           ·rw [iM (cj.err k2) av];exact b8.tr (y:=.error x) k2
          | ok x =>
           obtain ⟨b',r'⟩:=x;rw [he] at h;simp only at h |-
           obtain ⟨b,q,k1,k2⟩:=C.expr (d+1) r.tail p.next.next b8.1 zfQ
           rw [he] at k2;obtain ⟨rfl,k2⟩:=k2;have hm:=k2.1.aV (s:=[93]) av;have ba:=(b8.tr k2).tr hm;rw [k2.2.2] at ba;refine ⟨one 3 t.at_ t.s [b],q.aV [93],key _ _ fun g hg=>?_,?_⟩
           ·rw [mE,ab zgk,k1 g hg]
           ·cases tU:aV p.next.next.e [93] r' with
            | error x=>rw [tU] at ba;exact ba
            | ok r2=>exact zdQ
         ·rw [F hb] at h |-
          by_cases hc:sign r 0=[40]
          ·rw [ab hc] at h |-;obtain ⟨tb,Dn,_⟩:=ej av hc;have b8:=hn.1;rw [Dn] at b8
           have b8:=hn.tr b8.next
           rw [show p.e=p.next.next.e from rfl] at h |-
           cases he:rd.args p.next.next.e f (d+1) [] r.tail with
           | error x =>
            rw [he] at h
            have hx:x≠bf:=fun h0=>h zfV
            obtain ⟨b,q,k1,k2⟩:=C.args0 (d+1) r.tail p.next.next b8.1 zfN
            rw [he] at k2;refine ⟨one 4 t.at_ t.s b,q,key _ _ fun g hg=>?_,b8.tr (y:=.error x) k2⟩;exact zeV
           | ok x =>
            obtain ⟨b',r'⟩:=x;rw [he] at h
            obtain ⟨b,q,k1,k2⟩:=C.args0 (d+1) r.tail p.next.next b8.1 zfQ
            rw [he] at k2;obtain ⟨rfl,k2⟩:=k2;refine ⟨one 4 t.at_ t.s b,q,key _ _ fun g hg=>?_,rfl,b8.tr k2⟩;exact zeV
          ·rw [F hc] at h |-;refine ⟨one 2 t.at_ t.s [],p.next,key _ _ fun g hg=>?_,rfl,hn⟩;rw [mE,F zgk,F (by rw [eu];exact hc)]
       ·have fm:name p.e (t::r)=.error (7,t.at_):=by simp [name,M]
        rw [fm] at h |-;have:=hp.kinds t (br uD);omega
  ·rw [rd.args] at h |-;have eu:p.sign 0=sign ts 0:=hp.sign 0
   by_cases hb:sign ts 0=[41]
   ·rw [ab hb];have hm:=hp.aV (s:=[41]) av;unfold Go.Xp.aV at hm;rw [ab hb] at hm;refine ⟨acc,p.aV [41],fun g hg=>?_,rfl,hm⟩;obtain ⟨g,rfl,hg⟩:=up hg;rw [vE,F (by rw [eu,hb];decide)]
   ·rw [F hb,F mT] at h |-
    by_cases hc:sign ts 0=[44]
    ·have lD:Go.Xp.aV p.e [44] ts=.ok ts.tail:=by unfold Go.Xp.aV;rw [ab hc]
     rw [lD] at h |-;simp only at h |-;obtain ⟨tb,Dn,_⟩:=ej av hc;have hn:=hp;rw [Dn] at hn
     have hn:=hn.next
     rw [show p.e=p.next.e from rfl] at h |-
     cases he:rd p.next.e f (.expr d) ts.tail with
     | error x =>
      rw [he] at h
      have hx:x≠bf:=fun h0=>h zfV
      obtain ⟨b,q,k1,k2⟩:=C.expr d ts.tail p.next hn.1 zfN
      rw [he] at k2;refine ⟨acc++[b],q,fun g hg=>?_,hn.tr (y:=.error x) k2⟩;obtain ⟨g,rfl,hg⟩:=up hg;rw [vE,ab (by rw [eu,hc]),k1 g aq];exact zcl
     | ok x =>
      obtain ⟨b',r'⟩:=x;rw [he] at h;simp only at h |-
      obtain ⟨b,q,k1,k2⟩:=C.expr d ts.tail p.next hn.1 zfQ
      rw [he] at k2;obtain ⟨rfl,k2⟩:=k2;rw [<-k2.2.2] at h |-;obtain ⟨t3,q3,h3,h4⟩:=C.args d (acc++[b]) r' q zfL k2.1 h;refine ⟨t3,q3,fun g hg=>?_,kx.tr (hn.tr k2) h4⟩;obtain ⟨g,rfl,hg⟩:=up hg;rw [vE,ab (by rw [eu,hc]),k1 g aq];exact h3 g aq
    ·have lD:Go.Xp.aV p.e [44] ts=.error (7,place p.e ts):=by unfold Go.Xp.aV;rw [F hc]
     rw [lD];have hm:=hp.aV (s:=[41]) av;unfold Go.Xp.aV at hm;rw [F hb] at hm;refine ⟨acc,p.aV [41],fun g hg=>?_,hm⟩;obtain ⟨g,rfl,hg⟩:=up hg;rw [vE,F (by rw [eu];exact hc)]
  ·rw [rd.args] at h |-;have eu:p.sign 0=sign ts 0:=hp.sign 0
   by_cases hb:sign ts 0=[41]
   ·rw [ab hb];have hm:=hp.aV (s:=[41]) av;unfold Go.Xp.aV at hm;rw [ab hb] at hm;refine ⟨[],p.aV [41],fun g hg=>?_,rfl,hm⟩;obtain ⟨g,rfl,hg⟩:=up hg;rw [mL,ab (by rw [eu,hb])]
   ·rw [F hb,ab rfl] at h |-;simp only at h |-
    cases he:rd p.e f (.expr d) ts with
    | error x =>
     rw [he] at h
     have hx:x≠bf:=fun h0=>h zfV
     obtain ⟨b,q,k1,k2⟩:=C.expr d ts p hp zfN;rw [he] at k2;refine ⟨[b],q,fun g hg=>?_,k2⟩;obtain ⟨g,rfl,hg⟩:=up hg;rw [mL,F zgk,k1 g aq];exact zcl
    | ok x =>
     obtain ⟨b',r'⟩:=x;rw [he] at h;simp only at h |-;obtain ⟨b,q,k1,k2⟩:=C.expr d ts p hp zfQ;rw [he] at k2;obtain ⟨rfl,k2⟩:=k2;rw [<-k2.2.2] at h |-;obtain ⟨t3,q3,h3,h4⟩:=C.args d ([]++[b]) r' q zfL k2.1 h;refine ⟨t3,q3,fun g hg=>?_,kx.tr k2 h4⟩;obtain ⟨g,rfl,hg⟩:=up hg;rw [mL,F zgk,k1 g aq];exact h3 g aq
end Go.Sp
namespace Go.Xp
theorem aav (e:Int):∀ f,(∀ j ts,rd e f j ts=.error bf\/rd e (f+1) j ts=rd e f j ts)/\(∀ d acc ts,rd.args e f d acc ts=.error bf\/rd.args e (f+1) d acc ts=rd.args e f d acc ts):=by
 intro f
 induction f with
 | zero=>exact ⟨fun j ts=>.inl (by simp [rd]),fun d acc ts=>.inl (by simp [rd.args])⟩
 | succ f ih =>
  obtain ⟨i1,i2⟩:=ih;refine ⟨fun j ts=>?_,fun d acc ts=>?_⟩
  ·rw [rd.eq_def e (f+1+1),rd.eq_def e (f+1)]
   cases j with
   | expr d =>
    simp only;split
    ·exact zbx
    ·exact i1 _ _
   | level k d =>
    simp only;split
    ·exact i1 _ _
    ·rcases i1 (.level (k+1) d) ts with h | h
     ·left;rw [h]
     ·rw [h]
      cases rd e f (.level (k+1) d) ts with
      | error x=>exact zbx
      | ok r=>exact i1 _ _
   | loop k d out =>
    cases ts with
    | nil=>exact zbx
    | cons t r =>
     simp only;split
     ·rcases i1 (.level (k+1) d) r with h | h
      ·left;rw [h]
      ·rw [h]
       cases rd e f (.level (k+1) d) r with
       | error x=>exact zbx
       | ok r=>exact i1 _ _
     ·exact zbx
   | operand d =>
    simp only;split
    ·exact zbx
    ·cases ts with
     | nil=>exact zbx
     | cons t r =>
      simp only;split
      ·split
       ·rcases i1 (.operand (d+1)) r with h | h
        ·left;rw [h]
        ·rw [h];exact zbx
       ·split
        ·rcases i1 (.expr (d+1)) r with h | h
         ·left;rw [h]
         ·rw [h];exact zbx
        ·exact zbx
      ·split
       ·exact zbx
       ·cases name e (t::r) with
        | error x=>exact zbx
        | ok y =>
         obtain ⟨s,r⟩:=y;simp only;split
         ·rcases i1 (.expr (d+1)) r.tail with h | h
          ·left;rw [h]
          ·rw [h];exact zbx
         ·split
          ·rcases i2 (d+1) [] r.tail with h | h
           ·left;rw [h]
           ·rw [h];exact zbx
          ·exact zbx
  ·rw [rd.args,rd.args];split
   ·exact zbx
   ·cases (if acc=[] then .ok ts else aV e [44] ts:Except Er (List Tok)) with
    | error x=>exact zbx
    | ok ts =>
     simp only
     rcases i1 (.expr d) ts with h | h
     ·left;rw [h]
     ·rw [h]
      cases rd e f (.expr d) ts with
      | error x=>exact zbx
      | ok y=>exact i2 _ _ _
theorem Lx {e:Int} {f f':Nat} {j:qp} {ts:List Tok} (h:rd e f j ts≠.error bf) (hf:f<=f'):rd e f' j ts=rd e f j ts:=by
 obtain ⟨k,rfl⟩:=Nat.exists_eq_add_of_le hf;clear hf
 induction k with
 | zero=>rfl
 | succ k ih =>
  rcases (aav e (f+k)).1 j ts with I | I
  ·rw [ih] at I;exact absurd I h
  ·rw [<-gn,I,ih]
theorem Ec {e:Int} {f d:Nat} {ts:List Tok} (h:20 * ts.length+12<=f):rd e f (.expr d) ts=expr e d ts:=by
 have h0:rd e (20 * ts.length+12) (.expr d) ts≠.error bf:=A5 (j:=.expr d) trivial (aD _);rw [Lx h0 h];unfold expr ot;exact (Lx h0 aq).symm
def at3 (t:T):Prop:=t.n.kind=3->∃ a,t.kids=[a]
theorem Qv (e:Int):∀ f j,(∀ k d out,j≠.loop k d out)->∀ t r,rd e f j []≠.ok (t,r):=by
 intro f
 induction f with
 | zero=>intro j _ t r h;simp [rd] at h
 | succ f ih =>
  intro j hj t r h;rw [rd.eq_def] at h
  cases j with
  | expr d =>
   simp only at h;split at h
   ·cases h
   ·exact ih _ (fun k d out h=>by cases h) _ _ h
  | level k d =>
   simp only at h;split at h
   ·exact ih _ (fun k d out h=>by cases h) _ _ h
   ·split at h
    ·cases h
    ·rename_i he;exact ih _ (fun k d out h=>by cases h) _ _ he
  | loop k d out=>exact hj _ _ _ rfl
  | operand d =>
   simp only at h;exact zfb
theorem Qu (e:Int):∀ f j ts t r,(∀ k d out,j=.loop k d out->at3 out)->rd e f j ts=.ok (t,r)->at3 t:=by
 intro f
 induction f with
 | zero=>intro j ts t r _ h;simp [rd] at h
 | succ f ih =>
  intro j ts t r hj h;rw [rd.eq_def] at h
  cases j with
  | expr d =>
   simp only at h;split at h
   ·cases h
   ·exact ih _ _ _ _ (fun k d out h=>by cases h) h
  | level k d =>
   simp only at h;split at h
   ·exact ih _ _ _ _ (fun k d out h=>by cases h) h
   ·split at h
    ·cases h
    ·rename_i out kg he;exact ih _ _ _ _ (fun k' d' ab0 nO=>by cases nO;exact ih _ _ _ _ (fun k d out h=>by cases h) he) h
  | loop k d out =>
   cases ts with
   | nil=>cases h;exact hj k d _ rfl
   | cons a r' =>
    simp only at h;split at h
    ·split at h
     ·cases h
     ·exact ih _ _ _ _ (fun k' d' ab0 nO=>by cases nO;intro h3;exact absurd h3 (by simp [one,T.n])) h
    ·cases h;exact hj k d _ rfl
  | operand d =>
   simp only at h;split at h
   ·cases h
   ·cases ts with
    | nil=>cases h
    | cons a r' =>
     simp only at h;split at h
     ·split at h
      ·split at h
       ·cases h
       ·cases h;intro h3;exact zfc
      ·split at h
       ·split at h
        ·cases h
        ·rename_i he;split at h
         ·cases h
         ·cases h;exact ih _ _ _ _ (fun k d out h=>by cases h) he
       ·cases h
     ·split at h
      ·cases h;intro h3;exact absurd h3 (by simp [T.n])
      ·split at h
       ·cases h
       ·split at h
        ·split at h
         ·cases h
         ·split at h
          ·cases h
          ·cases h;exact fun _=>⟨_,rfl⟩
        ·split at h
         ·split at h
          ·cases h
          ·cases h;intro h3;exact zfc
         ·cases h;intro h3;exact zfc
end Go.Xp
namespace Go.Sp
open Go.Xp
theorem Z9 {d:Nat} {ts:List Tok} {p:RS} (hp:On p ts):∃ t q,mX d p=some (t,q)/\kx p q t (expr p.e d ts):=by
 have hl:ts.length<=p.l.length:=by rw [<-hp.rest,jy];omega
 have hf:rd p.e (20 * ts.length+12) (.expr d) ts≠.error bf:=A5 (j:=.expr d) trivial (aD _);obtain ⟨t,q,I,M⟩:=(je _).expr d ts p hp hf;rw [Ec (aD _)] at M;exact ⟨t,q,I _ (by unfold KF fe;omega),M⟩
theorem H8 {d:Nat} {p:RS} (h:p.code≠0):mX d p=some (T.zero,p):=YD h (by unfold fe;omega)
theorem Qb {p:RS} (h:p.code≠0) {g d:Nat} (hg:2<=g):mS g (.block d) p=some (one 14 p.place [] [],p):=by
 obtain ⟨g,rfl⟩:∃ g',g=g'+2:=⟨g - 2,by omega⟩;rw [mS,sR h,iM h av];simp only [mB,h,false_and,if_false];rw [iM h av]
theorem QN {p:RS} (h:p.code≠0) {g d:Nat} (hg:1<=g):mS g (.stmt d) p=some (one 12 p.place [] [T.zero],p):=by
 obtain ⟨g,rfl⟩:∃ g',g=g'+1:=⟨g - 1,by omega⟩;rw [mS,sR h];simp only [mZ h];rw [F av,F av,F av,F (fun x=>h x.1),H8 h]
 have h03:¬ (T.zero.n.kind=3/\T.zero.n.at_=p.place/\p.sign 0=[61]):=fun x=>absurd x.1 av
 simp only;rw [F h03,iM h av]
structure JS' (f:Nat):Prop where
 block:∀ d ts p,On p ts->rs p.e f (.block d) ts≠.error bf->∃ t q,(∀ g,KF f<=g->mS g (.block d) p=some (t,q))/\kx p q t (rs p.e f (.block d) ts)
 stmt:∀ d ts p,On p ts->rs p.e f (.stmt d) ts≠.error bf->∃ t q,(∀ g,KF f<=g->mS g (.stmt d) p=some (t,q))/\kx p q t (rs p.e f (.stmt d) ts)
 body:∀ d acc ts p,On p ts->rs.body p.e f d acc ts≠.error bf->∃ t q,(∀ g,KF f<=g->mB g d acc p=some (t,q))/\kx p (q.aV [125]) t (rs.body p.e f d acc ts)
theorem MY {d:Nat} {ts:List Tok} {p:RS} (hp:On p ts):(∃ t q r,mX d p=some (t,q)/\expr p.e d ts=.ok (t,r)/\cj p q (.ok r))\/(∃ t q x,mX d p=some (t,q)/\expr p.e d ts=.error x/\cj p q (.error x)):=by
 obtain ⟨t,q,I,M⟩:=Z9 (d:=d) hp
 cases he:expr p.e d ts with
 | error x=>rw [he] at M;exact .inr ⟨t,q,x,I,rfl,M⟩
 | ok y =>
  obtain ⟨t',r⟩:=y;rw [he] at M;obtain ⟨rfl,M⟩:=M;exact .inl ⟨t,q,r,I,rfl,M⟩
theorem A3 {s:ae} {ts:List Tok} {p:RS} (hp:On p ts) (hs:s≠[]):(∃ r,Go.Xp.aV p.e s ts=.ok r/\cj p (p.aV s) (.ok r))\/(∃ x,Go.Xp.aV p.e s ts=.error x/\cj p (p.aV s) (.error x)):=by
 have h:=hp.aV hs
 cases he:Go.Xp.aV p.e s ts with
 | ok r=>rw [he] at h;exact .inl ⟨r,rfl,h⟩
 | error x=>exact zeO
theorem VX {ts:List Tok} {p:RS} (hp:On p ts):(∃ r,Go.Xp.name p.e ts=.ok (p.name.1,r)/\cj p p.name.2 (.ok r))\/(∃ x,Go.Xp.name p.e ts=.error x/\cj p p.name.2 (.error x)):=by
 rcases hp.name with h | h
 ·cases he:Go.Xp.name p.e ts with
  | ok y =>
   obtain ⟨s,r⟩:=y;rw [he] at h;obtain ⟨rfl,h⟩:=h;exact .inl ⟨r,rfl,h⟩
  | error x=>exact zeO
 ·exact .inr h
theorem Cc {d:Nat} {ts:List Tok} {p:RS} {b:ae} (hp:On p ts) (hb:b≠[]):∃ t q,mX d p=some (t,q)/\((∃ r r',expr p.e d ts=.ok (t,r)/\Go.Xp.aV p.e b r=.ok r'/\cj p (q.aV b) (.ok r'))\/(∃ r x,expr p.e d ts=.ok (t,r)/\Go.Xp.aV p.e b r=.error x/\cj p (q.aV b) (.error x))\/(∃ x,expr p.e d ts=.error x/\cj p (q.aV b) (.error x))):=by
 rcases MY (d:=d) hp with ⟨t,q,r,I,M,h3⟩ | ⟨t,q,x,I,M,h3⟩
 ·refine ⟨t,q,I,?_⟩
  rcases A3 h3.1 hb with ⟨r',h4,h5⟩ | ⟨x,h4,h5⟩
  ·rw [h3.2.2] at h4;exact .inl ⟨r,r',M,h4,h3.tr h5⟩
  ·exact zfi
 ·exact ⟨t,q,I,.inr (.inr ⟨x,M,by rw [iM h3.err hb];exact h3⟩)⟩
theorem On.pB {ts:List Tok} {p:RS} (hp:On p ts):p.pB=(match ts with | t::_=>decide (t.kind=2) | []=>false):=by
 have h:=hp.at 0;rw [Nat.add_zero] at h;unfold RS.pB;rw [h]
 cases ts <;> rfl
theorem HY {d:Nat} {ts:List Tok} {p:RS} {a b:ae} (hp:On p ts) (ha:a≠[]) (hb:b≠[]):∃ t q,mX d (p.aV a)=some (t,q)/\((∃ r,inner p.e d a b ts=.ok (t,r)/\cj p (q.aV b) (.ok r))\/∃ x,inner p.e d a b ts=.error x/\cj p (q.aV b) (.error x)):=by
 unfold Go.Xp.inner
 rcases A3 hp ha with ⟨r,I,M⟩ | ⟨x,I,M⟩
 ·rw [I];obtain ⟨t,q,h3,h4⟩:=Cc (d:=d) (b:=b) M.1 hb;rw [M.2.2] at h4;refine ⟨t,q,h3,?_⟩;simp only
  rcases h4 with ⟨r,r',k1,k2,k3⟩ | ⟨r,x,k1,k2,k3⟩ | ⟨x,k1,k3⟩
  ·exact zft
  ·rw [k1];simp only;rw [k2];exact zbn
  ·rw [k1];exact zbn
 ·rw [I];exact ⟨T.zero,p.aV a,H8 M.err,.inr ⟨x,rfl,by rw [iM M.err hb];exact M⟩⟩
theorem IG {d:Nat} {ts:List Tok} {p:RS} (hp:On p ts):∃ t q,mX d (p.name.2.aV [61])=some (t,q)/\((∃ r,mF p.e d ts=.ok ((p.name.1,t),r)/\cj p (q.aV [59]) (.ok r))\/∃ x,mF p.e d ts=.error x/\cj p (q.aV [59]) (.error x)):=by
 unfold Go.Xp.mF
 rcases VX hp with ⟨r,I,M⟩ | ⟨x,I,M⟩
 ·rw [I];obtain ⟨t,q,h3,h4⟩:=HY (d:=d) (a:=[61]) (b:=[59]) M.1 av av;rw [M.2.2] at h4;refine ⟨t,q,h3,?_⟩;simp only
  rcases h4 with ⟨r,k1,k3⟩ | ⟨x,k1,k3⟩
  ·rw [k1];exact .inl ⟨r,rfl,M.tr k3⟩
  ·rw [k1];exact zbn
 ·rw [I];refine ⟨T.zero,p.name.2,by rw [iM M.err av];exact H8 M.err,.inr ⟨x,rfl,by rw [iM M.err av];exact M⟩⟩
theorem js (f:Nat):JS' f:=by
 induction f with
 | zero=>exact ⟨fun d ts p _ h=>absurd zgF h,fun d ts p _ h=>absurd zgF h,fun d acc ts p _ h=>absurd (by simp [rs.body]) h⟩
 | succ f C =>
  refine ⟨fun d ts p hp h=>?_,fun d ts p hp h=>?_,fun d acc ts p hp h=>?_⟩
  ·rw [rs] at h |-
   by_cases hd:d > 60
   ·rw [ab hd] at h |-;have hf:=hp.fail 9 p.place av;refine ⟨one 14 (p.fail 9 p.place).place [] [],p.fail 9 p.place,fun g hg=>?_,by rw [<-hp.place];exact hf⟩
    have XO:p.deep d=p.fail 9 p.place:=by unfold RS.deep;rw [ab hd]
    have:=Qb (g:=g) (d:=d) hf.err zgm;exact zdh
   ·rw [F hd] at h |-
    have eH:p.deep d=p:=by unfold RS.deep;rw [F hd]
    rcases A3 hp (s:=[123]) av with ⟨r,I,M⟩ | ⟨x,I,M⟩
    ·rw [I] at h |-;simp only at h |-;rw [<-M.2.2] at h |-
     have hb:rs.body (p.aV [123]).e f (d+1) [] r≠.error bf:=fun h0=>h zfV
     obtain ⟨l,q,h3,h4⟩:=C.body (d+1) [] r (p.aV [123]) M.1 hb
     have cW:place (p.aV [123]).e ts=p.place:=by rw [M.2.2,hp.place]
     refine ⟨one 14 p.place [] l,q.aV [125],fun g hg=>?_,?_⟩
     ·obtain ⟨g,rfl,hg⟩:=up hg;rw [mS,eH,h3 g aq]
     ·cases he:rs.body (p.aV [123]).e f (d+1) [] r with
      | error x=>rw [he] at h4;exact M.tr (y:=.error x) h4
      | ok y=>exact zde
    ·rw [I] at h |-;refine ⟨one 14 p.place [] [],p.aV [123],fun g hg=>?_,M⟩;obtain ⟨g,rfl,hg⟩:=up hg;rw [mS,eH];obtain ⟨g,rfl⟩:∃ g',g=g'+1:=⟨g - 1,by omega⟩;simp only [mB,M.err,false_and,if_false];rw [iM M.err av]
  ·rw [rs] at h |-
   by_cases hd:d > 60
   ·rw [ab hd] at h |-;have hf:=hp.fail 9 p.place av
    have XO:p.deep d=p.fail 9 p.place:=by unfold RS.deep;rw [ab hd]
    refine ⟨one 12 (p.fail 9 p.place).place [] [T.zero],p.fail 9 p.place,fun g hg=>?_,by rw [<-hp.place];exact hf⟩;have:=QN (g:=g) (d:=d) hf.err zgm;exact zdh
   ·rw [F hd] at h |-
    have eH:p.deep d=p:=by unfold RS.deep;rw [F hd]
    have eu:p.sign 0=sign ts 0:=hp.sign 0;have Yj:p.sign 1=sign ts 1:=hp.sign 1;have cW:=hp.place;simp only at h |-
    by_cases hv:sign ts 0=ja
    ·rw [ab hv];obtain ⟨tv,zX,_⟩:=ej av hv;have hn:=hp;rw [zX] at hn
     have hn:=hn.next
     rw [show p.e=p.next.e from rfl]
     rcases IG (d:=d+1) hn.1 with ⟨t,q,I,⟨r,M,h3⟩ | ⟨x,M,h3⟩⟩
     ·rw [M];refine ⟨one 13 p.place p.next.name.1 [t],q.aV [59],fun g hg=>?_,by rw [cW];rfl,hn.tr h3⟩;exact zeP
     ·rw [M];refine ⟨one 13 p.place p.next.name.1 [t],q.aV [59],fun g hg=>?_,hn.tr (y:=.error x) h3⟩;exact zeP
    rw [F hv] at h |-
    by_cases hc:sign ts 0=eN\/sign ts 0=ei
    ·rw [ab hc] at h |-
     obtain ⟨tv,zX,hk3,vy⟩:∃ t,ts=t::ts.tail/\t.kind=3/\t.s=sign ts 0:=by
      rcases hc with hc | hc
      ·exact zeI
      ·exact zeI
     have hn:=hp;rw [zX] at hn
     have hn:=hn.next
     have vo:p.ck=if sign ts 0=eN then 9 else 10:=by unfold RS.ck;rw [eu]
     have key:∀ (t:T) (q:RS),(∀ g,KF f<=g->mS (g+1) (.cond p.place d) p=some (t,q))->∀ g,KF (f+1)<=g->mS g (.stmt d) p=some (t,q):=by
      intro t q hk g hg;obtain ⟨g,rfl,hg⟩:=up hg;rw [mS,eH];rw [F (by rw [eu];exact hv),ab (by rw [eu];exact hc)];exact zev
     rcases HY (d:=d+1) (a:=[40]) (b:=[41]) hn.1 av av with ⟨c,q,I,⟨r,M,h3⟩ | ⟨x,M,h3⟩⟩
     ·rw [show p.next.e=p.e from rfl] at M;rw [M] at h |-;simp only at h |-;have h3:=hn.tr h3
      have hb:rs p.e f (.block (d+1)) r≠.error bf:=fun h0=>h zfV
      rw [<-h3.2.2] at hb;obtain ⟨b,q2,h4,h5⟩:=C.block (d+1) r (q.aV [41]) h3.1 hb;rw [h3.2.2] at h5
      cases he:rs p.e f (.block (d+1)) r with
      | error x =>
       rw [he] at h5;refine ⟨one p.ck p.place [] [c,b],q2,key _ _ fun g hg=>?_,h3.tr (y:=.error x) h5⟩;refine zfd ?_;rw [F (by rw [mZ (cj.err h5)];exact fun x=>absurd x.2 av)]
      | ok y =>
       obtain ⟨b',r2⟩:=y;rw [he] at h5 h;obtain ⟨rfl,h5⟩:=h5;simp only at h |-;have h5:=h3.tr h5;have kz:q2.sign 0=sign r2 0:=h5.1.sign 0
       by_cases hi:sign ts 0=eN
       ·rw [ab hi] at h vo |-
        by_cases dJ:sign r2 0=fp
        ·rw [ab dJ] at h |-;obtain ⟨te,PB,_⟩:=ej av dJ;have b8:=h5.1;rw [PB] at b8
         have b8:=h5.tr b8.next
         have hb:rs p.e f (.block (d+1)) r2.tail≠.error bf:=fun h0=>h zfV
         rw [<-b8.2.2] at hb
         obtain ⟨b2,q3,h6,h7⟩:=C.block (d+1) r2.tail q2.next b8.1 hb
         rw [b8.2.2] at h7;refine ⟨one p.ck p.place [] [c,b,b2],q3,key _ _ fun g hg=>?_,?_⟩
         ·refine zfd ?_;rw [ab ⟨vo,by rw [kz,dJ]⟩,h6 g hg]
         ·cases rm:rs p.e f (.block (d+1)) r2.tail with
          | error x=>rw [rm] at h7;exact b8.tr (y:=.error x) h7
          | ok y=>obtain ⟨b3,r3⟩:=y;rw [rm] at h7;obtain ⟨rfl,h7⟩:=h7;exact ⟨by rw [vo,cW],b8.tr h7⟩
        ·rw [F dJ];refine ⟨one p.ck p.place [] [c,b],q2,key _ _ fun g hg=>?_,by rw [vo,cW],h5⟩;refine zfd ?_;rw [F (fun x=>dJ (by rw [<-kz];exact x.2))]
       ·rw [F hi] at vo |-;refine ⟨one p.ck p.place [] [c,b],q2,key _ _ fun g hg=>?_,by rw [vo,cW],h5⟩;refine zfd ?_;rw [F (by rw [vo];exact fun x=>absurd x.1 av)]
     ·rw [show p.next.e=p.e from rfl] at M;rw [M] at h |-;have h3:=hn.tr (y:=.error x) h3;refine ⟨one p.ck p.place [] [c,one 14 (q.aV [41]).place [] []],q.aV [41],key _ _ fun g hg=>?_,h3⟩;rw [mS,I];simp only;rw [Qb h3.err zgm];simp only;rw [F (by rw [mZ h3.err];exact fun x=>absurd x.2 av)]
    rw [F hc] at h |-
    have Hw:¬ (p.sign 0=eN\/p.sign 0=ei):=by rw [eu];exact hc
    by_cases hr:sign ts 0=dR
    ·rw [ab hr];obtain ⟨tv,zX,_⟩:=ej av hr;have hn:=hp;rw [zX] at hn
     have hn:=hn.next
     obtain ⟨t,q,I,M⟩:=Cc (d:=d+1) (b:=[59]) hn.1 av;rw [show p.next.e=p.e from rfl] at M;refine ⟨one 11 p.place [] [t],q.aV [59],fun g hg=>?_,?_⟩
     ·obtain ⟨g,rfl,hg⟩:=up hg;rw [mS,eH];rw [F (by rw [eu];exact hv),F Hw,ab (by rw [eu,hr]),I]
     ·rcases M with ⟨r,r',M,h3,h4⟩ | ⟨r,x,M,h3,h4⟩ | ⟨x,M,h4⟩
      ·exact zfD
      ·exact zdy
      ·rw [M];exact zb0
    rw [F hr] at h |-
    have KN:¬ p.sign 0=dR:=by rw [eu];exact hr
    have KQ:¬ p.sign 0=ja:=by rw [eu];exact hv
    have fm:=hp.pB
    cases ts with
    | nil =>
     have mx:¬ (p.code=0/\p.pB=true/\p.sign 1=[61]):=fun hx=>by have:=hx.2.1;rw [fm] at this;cases this
     rcases MY (d:=d+1) hp with ⟨t,q,r,I,M,h3⟩ | ⟨t,q,x,I,M,h3⟩
     ·exact zfu
     ·have mw:¬ (t.n.kind=3/\t.n.at_=p.place/\q.sign 0=[61]):=by rw [mZ h3.err];exact fun x=>absurd x.2.2 av
      refine ⟨one 12 p.place [] [t],q.aV [59],fun g hg=>?_,by unfold simple;rw [M,iM h3.err av];exact h3⟩;exact zbJ
    | cons a r0 =>
     simp only [simple] at h |-;simp only at fm
     by_cases cq:a.kind=2/\sign (a::r0) 1=[61]
     ·rw [ab cq];have mx:p.code=0/\p.pB=true/\p.sign 1=[61]:=⟨hp.code,by rw [fm];simpa using cq.1,by rw [Yj];exact cq.2⟩
      rcases IG (d:=d+1) hp with ⟨t,q,I,⟨r,M,h3⟩ | ⟨x,M,h3⟩⟩
      ·rw [M];refine ⟨one 7 p.place p.name.1 [t],q.aV [59],fun g hg=>?_,by rw [cW];rfl,h3⟩;exact zeD
      ·rw [M];refine ⟨one 7 p.place p.name.1 [t],q.aV [59],fun g hg=>?_,h3⟩;exact zeD
     ·rw [F cq]
      have mx:¬ (p.code=0/\p.pB=true/\p.sign 1=[61]):=fun hx=>cq ⟨by have:=hx.2.1;rw [fm] at this;simpa using this,by rw [<-Yj];exact hx.2.2⟩
      have MC:p.place=a.at_:=cW
      rcases MY (d:=d+1) hp with ⟨t,q,r,I,M,h3⟩ | ⟨t,q,x,I,M,h3⟩
      ·rw [M];simp only;have kz:q.sign 0=sign r 0:=h3.1.sign 0
       by_cases jJ:t.n.kind=3/\t.n.at_=a.at_/\sign r 0=[61]
       ·rw [ab jJ]
        have mw:t.n.kind=3/\t.n.at_=p.place/\q.sign 0=[61]:=by rw [MC,kz];exact jJ
        obtain ⟨te,PB,_⟩:=ej av jJ.2.2;have hn:=h3.1;rw [PB] at hn
        have hn:=h3.tr hn.next
        obtain ⟨ix,zP⟩:=Qu _ _ _ _ _ _ (fun k d out hj=>by cases hj) M jJ.1
        have eZ:∀ kg,Go.Xp.inner p.e (d+1) [61] [59] kg=Go.Xp.inner p.e (d+1) [61] [59] kg:=fun _=>rfl
        have lD:Go.Xp.aV p.e [61] r=.ok r.tail:=by unfold Go.Xp.aV;rw [ab jJ.2.2]
        obtain ⟨v,q2,h4,h5⟩:=Cc (d:=d+1) (b:=[59]) hn.1 av;rw [hn.2.2] at h5;refine ⟨one 8 p.place t.n.s [ix,v],q2.aV [59],fun g hg=>?_,?_⟩
        ·obtain ⟨g,rfl,hg⟩:=up hg;rw [mS,eH];rw [F KQ,F Hw,F KN,F mx,I];simp only;rw [ab mw,zP,h4]
        ·unfold Go.Xp.inner;rw [lD];simp only
         rcases h5 with ⟨r2,r',M,h3,h4⟩ | ⟨r2,x,M,h3,h4⟩ | ⟨x,M,h4⟩
         ·rw [M];simp only;rw [h3];exact ⟨by rw [MC,zP];rfl,hn.tr h4⟩
         ·exact zdy
         ·rw [M];exact zb0
       ·rw [F jJ]
        have mw:¬ (t.n.kind=3/\t.n.at_=p.place/\q.sign 0=[61]):=by rw [MC,kz];exact jJ
        refine ⟨one 12 p.place [] [t],q.aV [59],fun g hg=>?_,?_⟩
        ·exact zbJ
        ·rcases A3 h3.1 (s:=[59]) av with ⟨r',h4,h5⟩ | ⟨x,h4,h5⟩
         ·rw [h3.2.2] at h4;rw [h4];exact ⟨by rw [MC],h3.tr h5⟩
         ·rw [h3.2.2] at h4;rw [h4];exact h3.tr (y:=.error x) h5
      ·rw [M]
       have mw:¬ (t.n.kind=3/\t.n.at_=p.place/\q.sign 0=[61]):=by rw [mZ h3.err];exact fun x=>absurd x.2.2 av
       refine ⟨one 12 p.place [] [t],q.aV [59],fun g hg=>?_,by rw [iM h3.err av];exact h3⟩;exact zbJ
  ·rw [rs.body] at h |-;have eu:p.sign 0=sign ts 0:=hp.sign 0
   by_cases hb:sign ts 0=[125]
   ·rw [ab hb];have hm:=hp.aV (s:=[125]) av;unfold Go.Xp.aV at hm;rw [ab hb] at hm;refine ⟨acc,p,fun g hg=>?_,rfl,hm⟩;obtain ⟨g,rfl,hg⟩:=up hg;rw [mB,F (fun h0=>h0.2 (by rw [eu,hb]))]
   ·rw [F hb] at h |-
    have hs:rs p.e f (.stmt d) ts≠.error bf:=fun h0=>h zfV
    obtain ⟨a,q,I,M⟩:=C.stmt d ts p hp hs;have hc:p.code=0/\¬ p.sign 0=[125]:=⟨hp.code,by rw [eu];exact hb⟩
    cases he:rs p.e f (.stmt d) ts with
    | error x =>
     rw [he] at M h;refine ⟨acc++[a],q,fun g hg=>?_,by rw [iM (cj.err M) av];exact M⟩;obtain ⟨g,rfl,hg⟩:=up hg;rw [mB,ab hc,I g aq];simp only;obtain ⟨g,rfl⟩:∃ g',g=g'+1:=⟨g - 1,by omega⟩;rw [mB,F (fun h0=>cj.err M h0.1)]
    | ok y =>
     obtain ⟨a',r⟩:=y;rw [he] at M h;obtain ⟨rfl,M⟩:=M;simp only at h |-;rw [<-M.2.2] at h |-;obtain ⟨l,q3,h3,h4⟩:=C.body d (acc++[a]) r q M.1 h;refine ⟨l,q3,fun g hg=>?_,kx.tr M h4⟩;obtain ⟨g,rfl,hg⟩:=up hg;rw [mB,ab hc,I g aq];exact h3 g aq
end Go.Sp
namespace Go.Im
open Go.Xp Go.Sp
def tok (p:RS) (k:Nat):Tok:=match p.l[p.i+k]? with | some t=>t | none=>⟨0,0,[],p.e⟩
def is (p:RS) (k:Nat) (s:ae):Bool:=(tok p k).kind==3&&(tok p k).s==s
def lS (p:RS):RS:=p.fail 7 (tok p 0).at_
def want (p:RS) (s:ae):RS:=if p.code=0 then (if is p 0 s=true then p.next else lS p) else p
def bF (p:RS):RS:=if p.code=0 then (if (tok p 0).kind=2 then (if (tok p 0).s.length > 12 then p.fail 8 (tok p 0).at_ else p.next) else lS p) else p
def ct (p:RS) (d:Nat):RS:=if d > 60 then p.fail 9 (tok p 0).at_ else p
mutual
def iE:Nat->qp->RS->Option (T × RS)
 | 0,_,_=>none
 | f+1,.expr d,p=>if (ct p d).code=0 then iE f (.level 0 (d+1)) (ct p d) else some (T.zero,ct p d)
 | f+1,.level k d,p =>
  if k=9 then iE f (.operand d) p
  else match iE f (.level (k+1) d) p with
   | none=>none
   | some (out,p)=>iE f (.loop k d out) p
 | f+1,.loop k d out,p =>
  if p.code=0/\(tok p 0).kind=3/\(levels.getD k []).contains (tok p 0).s=true then
   match iE f (.level (k+1) d) p.next with
   | none=>none
   | some (b,q)=>iE f (.loop k d (one 6 (tok p 0).at_ (tok p 0).s [out,b])) q
  else some (out,p)
 | f+1,.operand d,p =>
  if (ct p d).code=0 then
   if is p 0 [45]=true\/is p 0 [33]=true\/is p 0 [126]=true then match iE f (.operand (d+1)) p.next with
    | none=>none
    | some (a,q)=>some (one 5 (tok p 0).at_ (tok p 0).s [a],q)
   else if (tok p 0).kind=1 then some (.mk ⟨1,(tok p 0).at_,(tok p 0).n,[],[]⟩ [],p.next)
   else if is p 0 [40]=true then match iE f (.expr (d+1)) p.next with
    | none=>none
    | some (a,q)=>some (a,want q [41])
   else if (bF p).code=0 then
    if is (bF p) 0 [91]=true then match iE f (.expr (d+1)) (bF p).next with
     | none=>none
     | some (a,q)=>some (one 3 (tok p 0).at_ (tok p 0).s [a],want q [93])
    else if is (bF p) 0 [40]=true then match iA f (d+1) [] (bF p).next with
     | none=>none
     | some (l,q)=>some (one 4 (tok p 0).at_ (tok p 0).s l,q)
    else some (one 2 (tok p 0).at_ (tok p 0).s [],bF p)
   else some (one 2 (tok p 0).at_ (tok p 0).s [],bF p)
  else some (T.zero,ct p d)
def iA:Nat->Nat->List T->RS->Option (List T × RS)
 | 0,_,_,_=>none
 | f+1,d,acc,p =>
  if p.code=0/\is p 0 [41]=false then match iE f (.expr d) (if acc.length=0 then p else want p [44]) with
   | none=>none
   | some (a,q)=>iA f d (acc++[a]) q
  else some (acc,want p [41])
end
section
variable {p q:RS} {ts r:List Tok}
theorem On.tok (h:On p ts) (k:Nat):tok p k=(match ts[k]? with | some t=>t | none=>⟨0,0,[],p.e⟩):=by unfold Im.tok;rw [h.at]
theorem On.sx (h:On p ts):(Im.tok p 0).at_=Go.Xp.place p.e ts:=by
 rw [On.tok h]
 cases ts with
 | nil=>rfl
 | cons t r=>rfl
theorem On.is (h:On p ts) (k:Nat) {s:ae} (hs:s≠[]):is p k s=decide (sign ts k=s):=by
 unfold Im.is
 have he:sign ts k=(if (Im.tok p k).kind=3 then (Im.tok p k).s else []):=by
  unfold Go.Xp.sign;rw [On.tok h]
  cases hk:ts[k]? with
  | none=>simp
  | some t=>rfl
 rw [he]
 by_cases h3:(Im.tok p k).kind=3
 ·rw [ab h3,Bool.eq_iff_iff];simp [h3]
 ·rw [F h3,Bool.eq_iff_iff];simp [h3];exact hs
theorem ia (h:p.code≠0) (s:ae):want p s=p:=by unfold want;rw [F h]
theorem CY (h:p.code≠0) (d:Nat):ct p d=p:=by unfold ct;split <;> simp [vj h]
theorem Qg (h:p.code≠0):bF p=p:=by unfold bF;rw [F h]
theorem On.lS (h:On p ts):cj p (lS p) (.error (7,place p.e ts)):=by
 unfold Im.lS;rw [On.sx h];exact h.fail 7 _ av
theorem On.want (h:On p ts) {s:ae} (hs:s≠[]):cj p (want p s) (Go.Xp.aV p.e s ts):=by
 unfold Im.want Go.Xp.aV;rw [ab h.code,On.is h 0 hs]
 by_cases h0:sign ts 0=s
 ·rw [ab zgn,ab h0];obtain ⟨t,ht,_⟩:=ej hs h0;rw [ht] at h
  exact h.next
 ·rw [F zgn,F h0];exact On.lS h
theorem nM (h:On p ts) {s:ae} (hs:s≠[]):(∃ r,Go.Xp.aV p.e s ts=.ok r/\cj p (Im.want p s) (.ok r))\/(∃ x,Go.Xp.aV p.e s ts=.error x/\cj p (Im.want p s) (.error x)):=by
 have h:=On.want h hs
 cases he:Go.Xp.aV p.e s ts with
 | ok r=>rw [he] at h;exact .inl ⟨r,rfl,h⟩
 | error x=>exact zeO
theorem vF (h:On p ts):(∃ r,Go.Xp.name p.e ts=.ok ((Im.tok p 0).s,r)/\cj p (Im.bF p) (.ok r))\/(∃ x,Go.Xp.name p.e ts=.error x/\cj p (Im.bF p) (.error x)):=by
 have ht:=On.tok h 0;have hw:=On.lS h;unfold Im.bF;rw [ab h.code]
 cases ts with
 | nil =>
  simp only [List.getElem?_nil] at ht;rw [ht];exact .inr ⟨_,rfl,by rw [F zfL];exact hw⟩
 | cons t r =>
  simp only [getElem?_cons_zero] at ht;rw [ht];simp only [Go.Xp.name]
  by_cases M:t.kind=2
  ·rw [ab M,ab M]
   by_cases hl:t.s.length > 12
   ·rw [ab hl,ab hl];exact .inr ⟨_,rfl,h.fail 8 _ av⟩
   ·rw [F hl,F hl];exact .inl ⟨r,rfl,h.next⟩
  ·rw [F M,F M];exact .inr ⟨_,rfl,hw⟩
theorem HV (h:p.code≠0) {g d:Nat} (hg:1<=g):iE g (.expr d) p=some (T.zero,p):=by
 obtain ⟨g,rfl⟩:∃ g',g=g'+1:=⟨g - 1,by omega⟩;rw [iE,CY h,F h]
theorem PL (h:p.code≠0) {g k d:Nat} {out:T} (hg:1<=g):iE g (.loop k d out) p=some (out,p):=by
 obtain ⟨g,rfl⟩:∃ g',g=g'+1:=⟨g - 1,by omega⟩;rw [iE,F (fun h0=>h h0.1)]
end
structure IE (f:Nat):Prop where
 expr:∀ d ts p,On p ts->rd p.e f (.expr d) ts≠.error bf->∃ t q,(∀ g,f+2<=g->iE g (.expr d) p=some (t,q))/\kx p q t (rd p.e f (.expr d) ts)
 level:∀ k d ts p,k<=9->On p ts->rd p.e f (.level k d) ts≠.error bf->∃ t q,(∀ g,f+2<=g->iE g (.level k d) p=some (t,q))/\kx p q t (rd p.e f (.level k d) ts)
 loop:∀ k d out ts p,k < 9->On p ts->rd p.e f (.loop k d out) ts≠.error bf->∃ t q,(∀ g,f+2<=g->iE g (.loop k d out) p=some (t,q))/\kx p q t (rd p.e f (.loop k d out) ts)
 operand:∀ d ts p,On p ts->rd p.e f (.operand d) ts≠.error bf->∃ t q,(∀ g,f+2<=g->iE g (.operand d) p=some (t,q))/\kx p q t (rd p.e f (.operand d) ts)
 args:∀ d acc ts p,On p ts->rd.args p.e f d acc ts≠.error bf->∃ t q,(∀ g,f+2<=g->iA g d acc p=some (t,q))/\kx p q t (rd.args p.e f d acc ts)
theorem nK {f g:Nat} (h:f+1+2<=g):∃ g',g=g'+1/\f+2<=g':=⟨g - 1,by omega,by omega⟩
theorem ie (f:Nat):IE f:=by
 induction f with
 | zero =>
  refine ⟨fun d ts p _ h=>absurd ?_ h,fun k d ts p _ _ h=>absurd ?_ h,fun k d out ts p _ _ h=>absurd ?_ h,fun d ts p _ h=>absurd ?_ h,fun d acc ts p _ h=>absurd ?_ h⟩ <;> simp [rd,rd.args]
 | succ f C =>
  refine ⟨fun d ts p hp h=>?_,fun k d ts p hk hp h=>?_,fun k d out ts p hk hp h=>?_,fun d ts p hp h=>?_,fun d acc ts p hp h=>?_⟩
  ·rw [rd] at h |-
   by_cases hd:d > 60
   ·rw [ab hd] at h |-;have hf:=hp.fail 9 (tok p 0).at_ av;refine ⟨T.zero,p.fail 9 (tok p 0).at_,fun g hg=>?_,by rw [<-On.sx hp];exact hf⟩;obtain ⟨g,rfl,hg⟩:=nK hg
    have ij:ct p d=p.fail 9 (tok p 0).at_:=by unfold ct;rw [ab hd]
    rw [iE,ij,F hf.err]
   ·rw [F hd] at h |-
    have ij:ct p d=p:=by unfold ct;rw [F hd]
    obtain ⟨t,q,I,M⟩:=C.level 0 (d+1) ts p aq hp h;refine ⟨t,q,fun g hg=>?_,M⟩;obtain ⟨g,rfl,hg⟩:=nK hg;rw [iE,ij,ab hp.code];exact I g aq
  ·rw [rd] at h |-
   by_cases h9:k=9
   ·rw [ab h9] at h |-;obtain ⟨t,q,I,M⟩:=C.operand d ts p hp h;refine ⟨t,q,fun g hg=>?_,M⟩;obtain ⟨g,rfl,hg⟩:=nK hg;rw [iE,ab h9];exact I g aq
   ·rw [F h9] at h |-
    cases he:rd p.e f (.level (k+1) d) ts with
    | error x =>
     rw [he] at h
     have hx:x≠bf:=fun h0=>h zfV
     obtain ⟨t,q,I,M⟩:=C.level (k+1) d ts p aq hp zfN;rw [he] at M;refine ⟨t,q,fun g hg=>?_,M⟩;obtain ⟨g,rfl,hg⟩:=nK hg;rw [iE,F h9,I g aq];exact PL (cj.err M) aq
    | ok r =>
     obtain ⟨t',r⟩:=r;rw [he] at h;simp only at h |-;obtain ⟨t,q,I,M⟩:=C.level (k+1) d ts p aq hp zfQ;rw [he] at M;obtain ⟨rfl,M⟩:=M;rw [<-M.2.2] at h |-;obtain ⟨t3,q3,h3,h4⟩:=C.loop k d t r q aq M.1 h;refine ⟨t3,q3,fun g hg=>?_,kx.tr M h4⟩;obtain ⟨g,rfl,hg⟩:=nK hg;rw [iE,F h9,I g aq];exact h3 g aq
  ·cases ts with
   | nil =>
    rw [rd];refine ⟨out,p,fun g hg=>?_,rfl,hp.self⟩;obtain ⟨g,rfl,hg⟩:=nK hg;rw [iE,F];rintro ⟨_,h0,_⟩;rw [On.tok hp] at h0;simp at h0
   | cons t r =>
    rw [rd] at h |-
    have ht:tok p 0=t:=by rw [On.tok hp];rfl
    by_cases hc:t.kind=3/\t.s∈levels.getD k []
    ·rw [ab hc] at h |-
     have hn:=hp.next
     have oR:p.code=0/\(tok p 0).kind=3/\(levels.getD k []).contains (tok p 0).s=true:=by rw [ht];exact ⟨hp.code,hc.1,by simpa using hc.2⟩
     rw [show p.e=p.next.e from rfl] at h |-
     cases he:rd p.next.e f (.level (k+1) d) r with
     | error x =>
      rw [he] at h
      have hx:x≠bf:=fun h0=>h zfV
      obtain ⟨b,q,I,M⟩:=C.level (k+1) d r p.next aq hn.1 zfN
      rw [he] at M;refine ⟨one 6 t.at_ t.s [out,b],q,fun g hg=>?_,hn.tr (y:=.error x) M⟩;obtain ⟨g,rfl,hg⟩:=nK hg;rw [iE,ab oR,I g aq,ht];exact PL (cj.err M) aq
     | ok x =>
      obtain ⟨b',r'⟩:=x;rw [he] at h;simp only at h |-
      obtain ⟨b,q,I,M⟩:=C.level (k+1) d r p.next aq hn.1 zfQ
      rw [he] at M;obtain ⟨rfl,M⟩:=M;rw [<-M.2.2] at h |-;obtain ⟨t3,q3,h3,h4⟩:=C.loop k d (one 6 t.at_ t.s [out,b]) r' q hk M.1 h;refine ⟨t3,q3,fun g hg=>?_,kx.tr (hn.tr M) h4⟩;obtain ⟨g,rfl,hg⟩:=nK hg;rw [iE,ab oR,I g aq,ht];exact h3 g aq
    ·rw [F hc];refine ⟨out,p,fun g hg=>?_,rfl,hp.self⟩;obtain ⟨g,rfl,hg⟩:=nK hg;rw [iE,F];rw [ht];rintro ⟨_,h0,I⟩;exact hc ⟨h0,by simpa using I⟩
  ·rw [rd.eq_def] at h |-;simp only at h |-
   by_cases hd:d > 60
   ·rw [ab hd] at h |-;have hf:=hp.fail 9 (tok p 0).at_ av;refine ⟨T.zero,p.fail 9 (tok p 0).at_,fun g hg=>?_,by rw [<-On.sx hp];exact hf⟩;obtain ⟨g,rfl,hg⟩:=nK hg
    have ij:ct p d=p.fail 9 (tok p 0).at_:=by unfold ct;rw [ab hd]
    rw [iE,ij,F hf.err]
   ·rw [F hd] at h |-
    have ij:ct p d=p:=by unfold ct;rw [F hd]
    have hi:∀ s:ae,s≠[]->is p 0 s=decide (sign ts 0=s):=fun s hs=>On.is hp 0 hs
    cases ts with
    | nil =>
     simp only
     have ht:tok p 0=⟨0,0,[],p.e⟩:=by rw [On.tok hp];rfl
     have cZ:∀ s:ae,s≠[]->is p 0 s=false:=fun s hs=>by rw [hi s hs];exact decide_eq_false (fun h=>hs h.symm)
     have Di:bF p=p.fail 7 p.e:=by unfold bF;rw [ab hp.code,ht,F zfL];unfold lS;rw [ht]
     have hf:=hp.fail 7 p.e av;refine ⟨one 2 p.e [] [],p.fail 7 p.e,fun g hg=>?_,hf⟩;obtain ⟨g,rfl,hg⟩:=nK hg;rw [iE,ij,ab hp.code,cZ _ av,cZ _ av,cZ _ av,F av,F (by rw [ht];simp),cZ _ av,F av,Di,F hf.err,ht]
    | cons t r =>
     simp only at h |-
     have ht:tok p 0=t:=by rw [On.tok hp];rfl
     have hn:=hp.next
     by_cases h3:t.kind=3
     ·rw [ab h3] at h |-
      have eu:sign (t::r) 0=t.s:=by simp only [sign,getElem?_cons_zero,bD,h3,if_true]
      have C7:¬ t.kind=1:=by omega
      have qy:∀ s:ae,s≠[]->is p 0 s=decide (t.s=s):=fun s hs=>by rw [hi s hs,eu]
      by_cases hu:t.s=[45]\/t.s=[33]\/t.s=[126]
      ·rw [ab hu] at h |-
       have uG:is p 0 [45]=true\/is p 0 [33]=true\/is p 0 [126]=true:=by
        rw [qy _ av,qy _ av,qy _ av];simpa using hu
       rw [show p.e=p.next.e from rfl] at h |-
       cases he:rd p.next.e f (.operand (d+1)) r with
       | error x =>
        rw [he] at h
        have hx:x≠bf:=fun h0=>h zfV
        obtain ⟨b,q,I,M⟩:=C.operand (d+1) r p.next hn.1 zfN
        rw [he] at M;refine ⟨one 5 t.at_ t.s [b],q,fun g hg=>?_,hn.tr (y:=.error x) M⟩;exact zeJ
       | ok x =>
        obtain ⟨b',r'⟩:=x;rw [he] at h;simp only at h |-
        obtain ⟨b,q,I,M⟩:=C.operand (d+1) r p.next hn.1 zfQ
        rw [he] at M;obtain ⟨rfl,M⟩:=M;refine ⟨one 5 t.at_ t.s [b],q,fun g hg=>?_,rfl,hn.tr M⟩;exact zeJ
      ·rw [F hu] at h |-
       have uG:¬ (is p 0 [45]=true\/is p 0 [33]=true\/is p 0 [126]=true):=by
        rw [qy _ av,qy _ av,qy _ av];simpa using hu
       by_cases hb:t.s=[40]
       ·rw [ab hb] at h |-
        have bA:is p 0 [40]=true:=by rw [qy _ av];simpa using hb
        rw [show p.e=p.next.e from rfl] at h |-
        cases he:rd p.next.e f (.expr (d+1)) r with
        | error x =>
         rw [he] at h
         have hx:x≠bf:=fun h0=>h zfV
         obtain ⟨b,q,I,M⟩:=C.expr (d+1) r p.next hn.1 zfN
         rw [he] at M;refine ⟨b,want q [41],fun g hg=>?_,?_⟩
         ·exact zdc
         ·rw [ia (cj.err M)];exact hn.tr (y:=.error x) M
        | ok x =>
         obtain ⟨b',r'⟩:=x;rw [he] at h;simp only at h |-
         obtain ⟨b,q,I,M⟩:=C.expr (d+1) r p.next hn.1 zfQ
         rw [he] at M;obtain ⟨rfl,M⟩:=M;have ba:=(hn.tr M).tr (On.want M.1 (s:=[41]) av);rw [M.2.2] at ba;refine ⟨b,want q [41],fun g hg=>?_,?_⟩
         ·exact zdc
         ·cases tU:aV p.next.e [41] r' with
          | error x=>rw [tU] at ba;exact ba
          | ok r2=>exact zdQ
       ·rw [F hb] at h |-
        have bA:¬ is p 0 [40]=true:=by rw [qy _ av];simpa using hb
        have Di:bF p=p.fail 7 t.at_:=by unfold bF;rw [ab hp.code,ht,F aq];unfold lS;rw [ht]
        have hf:=hp.fail 7 t.at_ av;refine ⟨one 2 t.at_ t.s [],p.fail 7 t.at_,fun g hg=>?_,hf⟩;obtain ⟨g,rfl,hg⟩:=nK hg;rw [iE,ij,ab hp.code,F uG,F (by rw [ht];exact C7),F bA,Di,F hf.err,ht]
     ·rw [F h3] at h |-
      have cZ:∀ s:ae,s≠[]->is p 0 s=false:=fun s hs=>by unfold is;rw [ht];simp [h3]
      have uG:¬ (is p 0 [45]=true\/is p 0 [33]=true\/is p 0 [126]=true):=by rw [cZ _ av,cZ _ av,cZ _ av];decide
      by_cases I:t.kind=1
      ·rw [ab I];refine ⟨_,p.next,fun g hg=>?_,rfl,hn⟩;obtain ⟨g,rfl,hg⟩:=nK hg;rw [iE,ij,ab hp.code,F uG,ab (by rw [ht];exact I),ht]
      ·rw [F I] at h |-
       have dx:¬ (tok p 0).kind=1:=by rw [ht];exact I
       have bA:¬ is p 0 [40]=true:=by rw [cZ _ av];decide
       rcases vF hp with ⟨r',k1,k2⟩ | ⟨x,k1,k2⟩
       ·rw [k1] at h |-;simp only at h |-
        have uA:∀ s:ae,s≠[]->is (bF p) 0 s=decide (sign r' 0=s):=fun s hs=>On.is k2.1 0 hs
        by_cases hb:sign r' 0=[91]
        ·rw [ab hb] at h |-
         have xo:is (bF p) 0 [91]=true:=by rw [uA _ av];simpa using hb
         obtain ⟨tb,Dn,_⟩:=ej av hb;have b8:=k2.1;rw [Dn] at b8
         have b8:=k2.tr b8.next
         rw [<-b8.2.2] at h |-
         cases he:rd (bF p).next.e f (.expr (d+1)) r'.tail with
         | error x =>
          rw [he] at h
          have hx:x≠bf:=fun h0=>h zfV
          obtain ⟨b,q,k3,k4⟩:=C.expr (d+1) r'.tail (bF p).next b8.1 zfN
          rw [he] at k4;refine ⟨one 3 t.at_ (tok p 0).s [b],want q [93],fun g hg=>?_,?_⟩
          ·exact zcM
          ·rw [ia (cj.err k4)];exact b8.tr (y:=.error x) k4
         | ok x =>
          obtain ⟨b',r2⟩:=x;rw [he] at h;simp only at h |-
          obtain ⟨b,q,k3,k4⟩:=C.expr (d+1) r'.tail (bF p).next b8.1 zfQ
          rw [he] at k4;obtain ⟨rfl,k4⟩:=k4;have ba:=(b8.tr k4).tr (On.want k4.1 (s:=[93]) av);rw [k4.2.2] at ba;refine ⟨one 3 t.at_ (tok p 0).s [b],want q [93],fun g hg=>?_,?_⟩
          ·exact zcM
          ·cases tU:aV (bF p).next.e [93] r2 with
           | error x=>rw [tU] at ba;exact ba
           | ok r3=>exact zdQ
        ·rw [F hb] at h |-
         have xo:¬ is (bF p) 0 [91]=true:=by rw [uA _ av];simpa using hb
         by_cases hc:sign r' 0=[40]
         ·rw [ab hc] at h |-
          have qf:is (bF p) 0 [40]=true:=by rw [uA _ av];simpa using hc
          obtain ⟨tb,Dn,_⟩:=ej av hc;have b8:=k2.1;rw [Dn] at b8
          have b8:=k2.tr b8.next
          rw [<-b8.2.2] at h |-
          cases he:rd.args (bF p).next.e f (d+1) [] r'.tail with
          | error x =>
           rw [he] at h
           have hx:x≠bf:=fun h0=>h zfV
           obtain ⟨b,q,k3,k4⟩:=C.args (d+1) [] r'.tail (bF p).next b8.1 zfN
           rw [he] at k4;refine ⟨one 4 t.at_ (tok p 0).s b,q,fun g hg=>?_,b8.tr (y:=.error x) k4⟩;exact zct
          | ok x =>
           obtain ⟨b',r2⟩:=x;rw [he] at h
           obtain ⟨b,q,k3,k4⟩:=C.args (d+1) [] r'.tail (bF p).next b8.1 zfQ
           rw [he] at k4;obtain ⟨rfl,k4⟩:=k4;refine ⟨one 4 t.at_ (tok p 0).s b,q,fun g hg=>?_,rfl,b8.tr k4⟩;exact zct
         ·rw [F hc] at h |-
          have qf:¬ is (bF p) 0 [40]=true:=by rw [uA _ av];simpa using hc
          refine ⟨one 2 t.at_ (tok p 0).s [],bF p,fun g hg=>?_,rfl,k2⟩;obtain ⟨g,rfl,hg⟩:=nK hg;rw [iE,ij,ab hp.code,F uG,F dx,F bA,ab k2.1.code,F xo,F qf];simp only [ht]
       ·rw [k1] at h |-;refine ⟨one 2 t.at_ (tok p 0).s [],bF p,fun g hg=>?_,k2⟩;obtain ⟨g,rfl,hg⟩:=nK hg;rw [iE,ij,ab hp.code,F uG,F dx,F bA,F k2.err];simp only [ht]
  ·rw [rd.args] at h |-;have hi:is p 0 [41]=decide (sign ts 0=[41]):=On.is hp 0 av
   by_cases hb:sign ts 0=[41]
   ·rw [ab hb];have hm:=On.want hp (s:=[41]) av;unfold Go.Xp.aV at hm;rw [ab hb] at hm;refine ⟨acc,want p [41],fun g hg=>?_,rfl,hm⟩;obtain ⟨g,rfl,hg⟩:=nK hg;rw [iA,F (fun h0=>by rw [hi] at h0;simp [hb] at h0)]
   ·rw [F hb] at h |-;have oR:p.code=0/\is p 0 [41]=false:=⟨hp.code,by rw [hi];simpa using hb⟩;have key:∀ (p':RS) (kg:List Tok),cj p p' (.ok kg)->(if acc.length=0 then p else want p [44])=p'->(match rd p.e f (.expr d) kg with | .error x=>.error x | .ok (a,ts)=>rd.args p.e f d (acc++[a]) ts:Rd (List T))≠.error bf ->
      ∃ t q,(∀ g,f+1+2<=g->iA g d acc p=some (t,q))/\kx p q t (match rd p.e f (.expr d) kg with | .error x=>.error x | .ok (a,ts)=>rd.args p.e f d (acc++[a]) ts):=by
     intro p' kg hn HA h;rw [<-hn.2.2] at h |-
     cases he:rd p'.e f (.expr d) kg with
     | error x =>
      rw [he] at h
      have hx:x≠bf:=fun h0=>h zfV
      obtain ⟨b,q,k1,k2⟩:=C.expr d kg p' hn.1 zfN;rw [he] at k2;refine ⟨acc++[b],q,fun g hg=>?_,hn.tr (y:=.error x) k2⟩;obtain ⟨g,rfl,hg⟩:=nK hg;rw [iA,ab oR,HA,k1 g aq];simp only;obtain ⟨g,rfl⟩:∃ g',g=g'+1:=⟨g - 1,by omega⟩;rw [iA,F (fun h0=>cj.err k2 h0.1),ia (cj.err k2)]
     | ok x =>
      obtain ⟨b',r'⟩:=x;rw [he] at h;simp only at h |-;obtain ⟨b,q,k1,k2⟩:=C.expr d kg p' hn.1 zfQ;rw [he] at k2;obtain ⟨rfl,k2⟩:=k2;rw [<-k2.2.2] at h |-;obtain ⟨t3,q3,h3,h4⟩:=C.args d (acc++[b]) r' q k2.1 h;refine ⟨t3,q3,fun g hg=>?_,kx.tr (hn.tr k2) h4⟩;obtain ⟨g,rfl,hg⟩:=nK hg;rw [iA,ab oR,HA,k1 g aq];exact h3 g aq
    cases acc with
    | nil =>
     rw [ab rfl] at h |-;exact key p ts hp.self rfl h
    | cons a0 acc0 =>
     rw [F zfL] at h |-
     rcases nM hp (s:=[44]) av with ⟨r',k1,k2⟩ | ⟨x,k1,k2⟩
     ·rw [k1] at h |-;exact key _ r' k2 (F zfL) h
     ·rw [k1];refine ⟨a0::acc0++[T.zero],want p [44],fun g hg=>?_,k2⟩;obtain ⟨g,rfl,hg⟩:=nK hg;rw [iA,ab oR,F zfL,HV k2.err aq];simp only;obtain ⟨g,rfl⟩:∃ g',g=g'+1:=⟨g - 1,by omega⟩;rw [iA,F (fun h0=>k2.err h0.1),ia k2.err]
end Go.Im
namespace Go.Xp
abbrev u9 (ts:List Tok):Prop:=ts.Pairwise fun a b=>a.at_ < b.at_
theorem yF {e:Int} {s:ae} {ts r:List Tok} (hs:s≠[]) (h:aV e s ts=.ok r):∃ u,ts=u::r/\u.kind=3/\u.s=s:=by
 obtain ⟨I,M⟩:=Ey h;obtain ⟨t,h3,h4,h5⟩:=Go.Sp.ej hs M;exact ⟨t,by rw [I];exact h3,h4,h5⟩
theorem Ih {e:Int} {s:ae} {ts r:List Tok} (h:name e ts=.ok (s,r)):∃ u,ts=u::r/\u.kind=2/\u.s=s/\s.length<=12:=by
 cases ts with
 | nil=>cases h
 | cons t ts =>
  rw [name] at h;split at h
  ·split at h
   ·cases h
   ·cases h;exact ⟨t,rfl,by assumption,rfl,by omega⟩
  ·cases h
theorem vN {s:ae} {ts:List Tok} (hs:s≠[]) (h:sign ts 0=s):∃ u,ts=u::ts.tail/\u.kind=3/\u.s=s:=Go.Sp.ej hs h
def WK (ts r:List Tok) (t:T):Prop:=∃ a pre,ts=a::(pre++r)/\(u9 ts->a.at_<=t.n.at_/\(t.n.kind=3->t.n.at_=a.at_->a.kind=2/\∃ YV w,a::pre=YV++[w]/\w.s=[93]))
def WI (ts r:List Tok) (out t:T):Prop:=(t=out/\r=ts)\/(t.n.kind=6/\∃ pre,ts=pre++r/\∃ u∈ts,t.n.at_=u.at_)
theorem Wa (e:Int):∀ f,(∀ j ts t r,(∀ k d out,j≠.loop k d out)->rd e f j ts=.ok (t,r)->WK ts r t)/\(∀ k d out ts t r,rd e f (.loop k d out) ts=.ok (t,r)->WI ts r out t)/\(∀ d acc ts l r,rd.args e f d acc ts=.ok (l,r)->∃ pre,ts=pre++r/\pre≠[]):=by
 intro f
 induction f with
 | zero=>exact ⟨fun j ts t r _ h=>by simp [rd] at h,fun k d out ts t r h=>by simp [rd] at h,fun d acc ts l r h=>by simp [rd.args] at h⟩
 | succ f ih =>
  obtain ⟨i1,i2,i3⟩:=ih;refine ⟨fun j ts t r hj h=>?_,fun k d out ts t r h=>?_,fun d acc ts l r h=>?_⟩
  ·rw [rd.eq_def] at h
   cases j with
   | expr d =>
    simp only at h;split at h
    ·cases h
    ·exact i1 _ _ _ _ (fun k d out h=>by cases h) h
   | level k d =>
    simp only at h;split at h
    ·exact i1 _ _ _ _ (fun k d out h=>by cases h) h
    ·split at h
     ·cases h
     ·rename_i out kg he;have I:=i1 _ _ _ _ (fun k d out h=>by cases h) he;have M:=i2 _ _ _ _ _ _ h
      rcases M with ⟨rfl,rfl⟩ | ⟨h3,ED,rfl,u,hu,h4⟩
      ·exact I
      ·obtain ⟨a,pre,rfl,h5⟩:=I;refine ⟨a,pre++ED,by simp,fun hs=>⟨?_,fun h6=>by omega⟩⟩;rw [h4];rw [u9,List.pairwise_cons] at hs;exact Int.le_of_lt (hs.1 u (List.mem_append_right _ hu))
   | loop k d out=>exact absurd rfl (hj _ _ _)
   | operand d =>
    simp only at h;split at h
    ·cases h
    ·cases ts with
     | nil=>cases h
     | cons a r' =>
      simp only at h;split at h
      ·rename_i h3;split at h
       ·split at h
        ·cases h
        ·rename_i b r2 he;cases h;obtain ⟨a2,pre,rfl,_⟩:=i1 _ _ _ _ (fun k d out h=>by cases h) he;exact ⟨a,a2::pre,by simp,fun _=>⟨by simp [one,T.n],fun h=>by simp [one,T.n] at h⟩⟩
       ·split at h
        ·split at h
         ·cases h
         ·rename_i b r2 he;split at h
          ·cases h
          ·rename_i r3 hm;cases h;obtain ⟨a2,pre,rfl,h5⟩:=i1 _ _ _ _ (fun k d out h=>by cases h) he;obtain ⟨w,rfl,_,_⟩:=yF av hm;refine ⟨a,a2::(pre++[w]),by simp,fun hs=>?_⟩;rw [u9,List.pairwise_cons] at hs;have h6:=(h5 hs.2).1;have h7:=hs.1 a2 zfL;exact ⟨by omega,fun _ h8=>by omega⟩
        ·cases h
      ·split at h
       ·cases h;exact ⟨a,[],rfl,fun _=>⟨Int.le_refl _,fun h=>by simp [T.n] at h⟩⟩
       ·split at h
        ·cases h
        ·rename_i s r2 hn;obtain ⟨u,hu,hk,_⟩:=Ih hn;cases hu;split at h
         ·rename_i hs;obtain ⟨w,hw,_,_⟩:=vN av hs;split at h
          ·cases h
          ·rename_i b r3 he;split at h
           ·cases h
           ·rename_i r4 hm;cases h;obtain ⟨a2,pre,h4,h5⟩:=i1 _ _ _ _ (fun k d out h=>by cases h) he;obtain ⟨z,rfl,_,hz⟩:=yF av hm;refine ⟨a,w::a2::(pre++[z]),by rw [hw,h4];simp,fun _=>⟨Int.le_refl _,fun _ _=>⟨hk,a::w::a2::pre,z,by simp,hz⟩⟩⟩
         ·split at h
          ·rename_i hs;obtain ⟨w,hw,_,_⟩:=vN av hs;split at h
           ·cases h
           ·rename_i l r3 he;cases h;obtain ⟨pre,h4,_⟩:=i3 _ _ _ _ _ he;exact ⟨a,w::pre,by rw [hw,h4];simp,fun _=>⟨Int.le_refl _,fun h=>by simp [one,T.n] at h⟩⟩
          ·cases h;exact ⟨a,[],rfl,fun _=>⟨Int.le_refl _,fun h=>by simp [one,T.n] at h⟩⟩
  ·cases ts with
   | nil=>rw [rd] at h;cases h;exact .inl ⟨rfl,rfl⟩
   | cons a r' =>
    rw [rd] at h;split at h
    ·split at h
     ·cases h
     ·rename_i b r2 he;obtain ⟨a2,pre,rfl,_⟩:=i1 _ _ _ _ (fun k d out h=>by cases h) he
      rcases i2 _ _ _ _ _ _ h with ⟨rfl,rfl⟩ | ⟨h3,ED,rfl,u,hu,h4⟩
      ·exact .inr ⟨rfl,a::a2::pre,by simp,a,by simp,rfl⟩
      ·exact .inr ⟨h3,a::a2::(pre++ED),by simp,u,by simp at hu |-;rcases hu with h | h <;> simp [h],h4⟩
    ·cases h;exact .inl ⟨rfl,rfl⟩
  ·rw [rd.args] at h;split at h
   ·rename_i hs;obtain ⟨w,hw,_,_⟩:=vN av hs;cases h;exact ⟨[w],by rw [hw];rfl,by simp⟩
   ·split at h
    ·cases h
    ·rename_i kg vy;split at h
     ·cases h
     ·rename_i a r' he;obtain ⟨a2,pre,h4,_⟩:=i1 _ _ _ _ (fun k d out h=>by cases h) he;obtain ⟨ED,h5,_⟩:=i3 _ _ _ _ _ h;split at vy
      ·cases vy;exact ⟨a2::(pre++ED),by rw [h4,h5];simp,by simp⟩
      ·obtain ⟨w,hw,_,_⟩:=yF av vy;exact ⟨w::a2::(pre++ED),by rw [hw,h4,h5];simp,by simp⟩
theorem OE {e:Int} {d:Nat} {ts r:List Tok} {t:T} (h:expr e d ts=.ok (t,r)):WK ts r t:=(Wa e _).1 _ _ _ _ (fun k d out h=>by cases h) h
end Go.Xp
namespace Go.Im
open Go.Xp Go.Sp
def wC (p:RS):ae:=match p.l[p.i - 1]? with | some t=>t.s | none=>[]
def yN (p q:RS) (e:T):Prop:=e.n.kind=3/\q.code=0/\wC q=[93]/\e.n.at_=(tok p 0).at_/\(tok p 0).kind=2/\is q 0 [61]=true
instance (p q:RS) (e:T):Decidable (yN p q e):=by unfold yN;infer_instance
mutual
def iS:Nat->sN->RS->Option (T × RS)
 | 0,_,_=>none
 | f+1,.block d,p =>
  if (ct p d).code=0 then match iB f (d+1) [] (want p [123]) with
   | none=>none
   | some (l,q)=>some (one 14 (tok p 0).at_ [] l,want q [125])
  else some (one 14 (tok p 0).at_ [] [],ct p d)
 | f+1,.stmt d,p =>
  if (ct p d).code=0 then
   if is p 0 ja=true then match iE f (.expr (d+1)) (want (bF p.next) [61]) with
    | none=>none
    | some (e,q)=>some (one 13 (tok p 0).at_ (tok p.next 0).s [e],want q [59])
   else if is p 0 eN=true\/is p 0 ei=true then match iE f (.expr (d+1)) (want p.next [40]) with
    | none=>none
    | some (c,q)=>match iS f (.block (d+1)) (want q [41]) with
     | none=>none
     | some (b,q) =>
      if is p 0 eN=true/\q.code=0/\is q 0 fp=true then match iS f (.block (d+1)) q.next with
       | none=>none
       | some (b2,q)=>some (one 9 (tok p 0).at_ [] [c,b,b2],q)
      else some (one (if is p 0 eN=true then 9 else 10) (tok p 0).at_ [] [c,b],q)
   else if is p 0 dR=true then match iE f (.expr (d+1)) p.next with
    | none=>none
    | some (e,q)=>some (one 11 (tok p 0).at_ [] [e],want q [59])
   else if (tok p 0).kind=2/\is p 1 [61]=true then match iE f (.expr (d+1)) (want (bF p) [61]) with
    | none=>none
    | some (e,q)=>some (one 7 (tok p 0).at_ (tok p 0).s [e],want q [59])
   else match iE f (.expr (d+1)) p with
    | none=>none
    | some (e,q) =>
     if yN p q e then match e.kids,iE f (.expr (d+1)) (want q [61]) with
      | a::_,some (v,q)=>some (one 8 (tok p 0).at_ e.n.s [a,v],want q [59])
      | _,_=>none
     else some (one 12 (tok p 0).at_ [] [e],want q [59])
  else some (T.zero,ct p d)
def iB:Nat->Nat->List T->RS->Option (List T × RS)
 | 0,_,_,_=>none
 | f+1,d,acc,p=>if p.code=0/\is p 0 [125]=false then match iS f (.stmt d) p with
   | none=>none
   | some (a,q)=>iB f d (acc++[a]) q
  else some (acc,p)
end
def KI (p:RS) (f:Nat):Nat:=f+20 * p.l.length+40
section
variable {p q:RS} {ts r:List Tok}
theorem MH {d g:Nat} (hp:On p ts) (hg:20 * p.l.length+20<=g):∃ t q,(∀ g,20 * p.l.length+20<=g->iE g (.expr d) p=some (t,q))/\((∃ r,expr p.e d ts=.ok (t,r)/\cj p q (.ok r))\/(∃ x,expr p.e d ts=.error x/\cj p q (.error x))):=by
 have hl:ts.length<=p.l.length:=by rw [<-hp.rest,jy];omega
 have hf:rd p.e (20 * ts.length+12) (.expr d) ts≠.error bf:=A5 (j:=.expr d) trivial (aD _);obtain ⟨t,q,I,M⟩:=(ie _).expr d ts p hp hf;rw [Ec (aD _)] at M;refine ⟨t,q,fun g hg=>I g aq,?_⟩
 cases he:expr p.e d ts with
 | error x=>rw [he] at M;exact .inr ⟨x,rfl,M⟩
 | ok y=>obtain ⟨t',r⟩:=y;rw [he] at M;obtain ⟨rfl,M⟩:=M;exact .inl ⟨r,rfl,M⟩
theorem MG {d:Nat} {b:ae} (hp:On p ts) (hb:b≠[]):∃ t q,(∀ g,20 * p.l.length+20<=g->iE g (.expr d) p=some (t,q))/\((∃ r r',expr p.e d ts=.ok (t,r)/\Go.Xp.aV p.e b r=.ok r'/\cj p (want q b) (.ok r'))\/(∃ r x,expr p.e d ts=.ok (t,r)/\Go.Xp.aV p.e b r=.error x/\cj p (want q b) (.error x))\/(∃ x,expr p.e d ts=.error x/\cj p (want q b) (.error x))):=by
 obtain ⟨t,q,I,M⟩:=MH (d:=d) hp (aD _);refine ⟨t,q,I,?_⟩
 rcases M with ⟨r,M,h3⟩ | ⟨x,M,h3⟩
 ·rcases nM h3.1 hb with ⟨r',h4,h5⟩ | ⟨x,h4,h5⟩
  ·rw [h3.2.2] at h4;exact .inl ⟨r,r',M,h4,h3.tr h5⟩
  ·exact zfi
 ·exact .inr (.inr ⟨x,M,by rw [ia h3.err];exact h3⟩)
theorem PK {d:Nat} {a b:ae} (hp:On p ts) (ha:a≠[]) (hb:b≠[]):∃ t q,(∀ g,20 * p.l.length+20<=g->iE g (.expr d) (want p a)=some (t,q))/\((∃ r,inner p.e d a b ts=.ok (t,r)/\cj p (want q b) (.ok r))\/∃ x,inner p.e d a b ts=.error x/\cj p (want q b) (.error x)):=by
 unfold Go.Xp.inner
 rcases nM hp ha with ⟨r,I,M⟩ | ⟨x,I,M⟩
 ·rw [I];obtain ⟨t,q,h3,h4⟩:=MG (d:=d) (b:=b) M.1 hb;rw [M.2.2] at h4;rw [M.2.1] at h3;refine ⟨t,q,h3,?_⟩;simp only
  rcases h4 with ⟨r,r',k1,k2,k3⟩ | ⟨r,x,k1,k2,k3⟩ | ⟨x,k1,k3⟩
  ·exact zft
  ·rw [k1];simp only;rw [k2];exact zbn
  ·rw [k1];exact zbn
 ·rw [I];exact ⟨T.zero,want p a,fun g hg=>HV M.err aq,.inr ⟨x,rfl,by rw [ia M.err];exact M⟩⟩
theorem PQ {d:Nat} (hp:On p ts):∃ t q,(∀ g,20 * p.l.length+20<=g->iE g (.expr d) (want (bF p) [61])=some (t,q))/\((∃ r,mF p.e d ts=.ok (((tok p 0).s,t),r)/\cj p (want q [59]) (.ok r))\/∃ x,mF p.e d ts=.error x/\cj p (want q [59]) (.error x)):=by
 unfold Go.Xp.mF
 rcases vF hp with ⟨r,I,M⟩ | ⟨x,I,M⟩
 ·rw [I];obtain ⟨t,q,h3,h4⟩:=PK (d:=d) (a:=[61]) (b:=[59]) M.1 av av;rw [M.2.2] at h4;rw [M.2.1] at h3;refine ⟨t,q,h3,?_⟩;simp only
  rcases h4 with ⟨r,k1,k3⟩ | ⟨x,k1,k3⟩
  ·rw [k1];exact .inl ⟨r,rfl,M.tr k3⟩
  ·rw [k1];exact zbn
 ·rw [I];refine ⟨T.zero,bF p,fun g hg=>by rw [ia M.err];exact HV M.err aq,.inr ⟨x,rfl,by rw [ia M.err];exact M⟩⟩
theorem Sk (h:p.code≠0) {g d:Nat} (hg:1<=g):iS g (.block d) p=some (one 14 (tok p 0).at_ [] [],p):=by
 obtain ⟨g,rfl⟩:∃ g',g=g'+1:=⟨g - 1,by omega⟩;rw [iS,CY h,F h]
theorem On.srt (h:On p ts) (hs:u9 p.l):u9 ts:=by rw [<-h.rest];exact hs.drop
theorem On.last (h:On p ts) {pre r:List Tok} {w:Tok} (hq:cj p q (.ok r)) (ht:ts=(pre++[w])++r):wC q=w.s:=by
 have I:p.l=p.l.take p.i++(pre++w::r):=by
  have:=List.take_append_drop p.i p.l;rw [h.rest,ht] at this;simp only [de,List.singleton_append,cons_append,nil_append] at this;exact this.symm
 have hr:=congrArg List.length hq.1.rest;have hl:=congrArg List.length I;have hle:=hq.1.le;have cW:=h.le;rw [hq.2.1] at hr hle;simp only [jy,aM,length_cons,du] at hr hl;unfold wC;rw [hq.2.1,I,fw zf1,fw zf1]
 have:q.i - 1 - (p.l.take p.i).length - pre.length=0:=by rw [du];omega
 rw [this];rfl
end
structure IS' (f:Nat):Prop where
 block:∀ d ts p,On p ts->u9 p.l->rs p.e f (.block d) ts≠.error bf->∃ t q,(∀ g,KI p f<=g->iS g (.block d) p=some (t,q))/\kx p q t (rs p.e f (.block d) ts)
 stmt:∀ d ts p,On p ts->u9 p.l->rs p.e f (.stmt d) ts≠.error bf->∃ t q,(∀ g,KI p f<=g->iS g (.stmt d) p=some (t,q))/\kx p q t (rs p.e f (.stmt d) ts)
 body:∀ d acc ts p,On p ts->u9 p.l->rs.body p.e f d acc ts≠.error bf->∃ t q,(∀ g,KI p f<=g->iB g d acc p=some (t,q))/\kx p (want q [125]) t (rs.body p.e f d acc ts)
theorem qJ {p:RS} {f g:Nat} (h:KI p (f+1)<=g):∃ g',g=g'+1/\KI p f<=g'/\20 * p.l.length+20<=g':=⟨g - 1,by unfold KI at h;omega,by unfold KI at *;omega,by unfold KI at h;omega⟩
theorem Gk {p q:RS} (h:q.l=p.l) (f:Nat):KI q f=KI p f:=by unfold KI;rw [h]
theorem is_ (f:Nat):IS' f:=by
 induction f with
 | zero=>exact ⟨fun d ts p _ _ h=>absurd zgF h,fun d ts p _ _ h=>absurd zgF h,fun d acc ts p _ _ h=>absurd (by simp [rs.body]) h⟩
 | succ f C =>
  refine ⟨fun d ts p hp hs h=>?_,fun d ts p hp hs h=>?_,fun d acc ts p hp hs h=>?_⟩
  ·rw [rs] at h |-;have cW:=On.sx hp
   by_cases hd:d > 60
   ·rw [ab hd] at h |-;have hf:=hp.fail 9 (tok p 0).at_ av;refine ⟨one 14 (tok p 0).at_ [] [],p.fail 9 (tok p 0).at_,fun g hg=>?_,by rw [<-cW];exact hf⟩;obtain ⟨g,rfl,lW,fR⟩:=qJ hg
    have ij:ct p d=p.fail 9 (tok p 0).at_:=by unfold ct;rw [ab hd]
    rw [iS,ij,F hf.err]
   ·rw [F hd] at h |-
    have ij:ct p d=p:=by unfold ct;rw [F hd]
    rcases nM hp (s:=[123]) av with ⟨r,I,M⟩ | ⟨x,I,M⟩
    ·rw [I] at h |-;simp only at h |-
     have hb:rs.body p.e f (d+1) [] r≠.error bf:=fun h0=>h zfV
     rw [<-M.2.2] at hb;obtain ⟨l,q,h3,h4⟩:=C.body (d+1) [] r (want p [123]) M.1 (by rw [M.2.1];exact hs) hb;rw [M.2.2] at h4;rw [Gk M.2.1] at h3;refine ⟨one 14 (tok p 0).at_ [] l,want q [125],fun g hg=>?_,?_⟩
     ·obtain ⟨g,rfl,lW,fR⟩:=qJ hg;rw [iS,ij,ab hp.code,h3 g aq]
     ·cases he:rs.body p.e f (d+1) [] r with
      | error x=>rw [he] at h4;exact M.tr (y:=.error x) h4
      | ok y=>exact zde
    ·rw [I] at h |-;refine ⟨one 14 (tok p 0).at_ [] [],want p [123],fun g hg=>?_,M⟩;obtain ⟨g,rfl,lW,fR⟩:=qJ hg;rw [iS,ij,ab hp.code];obtain ⟨g,rfl⟩:∃ g',g=g'+1:=⟨g - 1,by omega⟩;rw [iB,F (fun h0=>M.err h0.1)];simp only;rw [ia M.err]
  ·rw [rs] at h |-;have cW:=On.sx hp
   by_cases hd:d > 60
   ·rw [ab hd] at h |-;have hf:=hp.fail 9 (tok p 0).at_ av;refine ⟨T.zero,p.fail 9 (tok p 0).at_,fun g hg=>?_,by rw [<-cW];exact hf⟩;obtain ⟨g,rfl,lW,fR⟩:=qJ hg
    have ij:ct p d=p.fail 9 (tok p 0).at_:=by unfold ct;rw [ab hd]
    rw [iS,ij,F hf.err]
   ·rw [F hd] at h |-
    have ij:ct p d=p:=by unfold ct;rw [F hd]
    have hi:∀ s:ae,s≠[]->is p 0 s=decide (sign ts 0=s):=fun s hs=>On.is hp 0 hs
    have BD:is p 1 [61]=decide (sign ts 1=[61]):=On.is hp 1 av;simp only at h |-
    by_cases hv:sign ts 0=ja
    ·rw [ab hv]
     have vz:is p 0 ja=true:=by rw [hi _ av];simpa using hv
     obtain ⟨tv,zX,_⟩:=ej av hv;have hn:=hp;rw [zX] at hn
     have hn:=hn.next
     rw [show p.e=p.next.e from rfl];obtain ⟨t,q,I,M⟩:=PQ (d:=d+1) hn.1
     rcases M with ⟨r,M,h3⟩ | ⟨x,M,h3⟩
     ·rw [M];refine ⟨one 13 (tok p 0).at_ (tok p.next 0).s [t],want q [59],fun g hg=>?_,by rw [cW];rfl,hn.tr h3⟩;exact zeK
     ·rw [M];refine ⟨one 13 (tok p 0).at_ (tok p.next 0).s [t],want q [59],fun g hg=>?_,hn.tr (y:=.error x) h3⟩;exact zeK
    rw [F hv] at h |-
    have vz:¬ is p 0 ja=true:=by rw [hi _ av];simpa using hv
    by_cases hc:sign ts 0=eN\/sign ts 0=ei
    ·rw [ab hc] at h |-
     have qf:is p 0 eN=true\/is p 0 ei=true:=by rw [hi _ av,hi _ av];simpa using hc
     obtain ⟨tv,zX⟩:∃ t,ts=t::ts.tail:=by
      rcases hc with hc | hc
      ·obtain ⟨t,I,_⟩:=ej av hc;exact ⟨t,I⟩
      ·obtain ⟨t,I,_⟩:=ej av hc;exact ⟨t,I⟩
     have hn:=hp;rw [zX] at hn
     have hn:=hn.next
     have vo:(if is p 0 eN=true then (9:Int) else 10)=if sign ts 0=eN then 9 else 10:=by rw [hi _ av];simp
     obtain ⟨c,q,I,M⟩:=PK (d:=d+1) (a:=[40]) (b:=[41]) hn.1 av av
     rcases M with ⟨r,M,h3⟩ | ⟨x,M,h3⟩
     ·rw [show p.next.e=p.e from rfl] at M;rw [M] at h |-;simp only at h |-;have h3:=hn.tr h3
      have hb:rs p.e f (.block (d+1)) r≠.error bf:=fun h0=>h zfV
      rw [<-h3.2.2] at hb;obtain ⟨b,q2,h4,h5⟩:=C.block (d+1) r (want q [41]) h3.1 (by rw [h3.2.1];exact hs) hb;rw [h3.2.2] at h5;rw [Gk h3.2.1] at h4
      cases he:rs p.e f (.block (d+1)) r with
      | error x =>
       rw [he] at h5;refine ⟨one (if is p 0 eN=true then 9 else 10) (tok p 0).at_ [] [c,b],q2,fun g hg=>?_,h3.tr (y:=.error x) h5⟩;obtain ⟨g,rfl,lW,fR⟩:=qJ hg;refine zbP ?_;rw [F (fun h0=>cj.err h5 h0.2.1)]
      | ok y =>
       obtain ⟨b',r2⟩:=y;rw [he] at h5 h;obtain ⟨rfl,h5⟩:=h5;simp only at h |-;have h5:=h3.tr h5;have kz:is q2 0 fp=decide (sign r2 0=fp):=On.is h5.1 0 av
       by_cases HA:sign ts 0=eN
       ·rw [ab HA] at h vo |-
        have Sb:is p 0 eN=true:=by rw [hi _ av];simpa using HA
        by_cases dJ:sign r2 0=fp
        ·rw [ab dJ] at h |-;obtain ⟨te,PB,_⟩:=ej av dJ;have b8:=h5.1;rw [PB] at b8
         have b8:=h5.tr b8.next
         have hb:rs p.e f (.block (d+1)) r2.tail≠.error bf:=fun h0=>h zfV
         rw [<-b8.2.2] at hb
         obtain ⟨b2,q3,h6,h7⟩:=C.block (d+1) r2.tail q2.next b8.1 (by rw [b8.2.1];exact hs) hb
         rw [b8.2.2] at h7;rw [Gk b8.2.1] at h6;refine ⟨one 9 (tok p 0).at_ [] [c,b,b2],q3,fun g hg=>?_,?_⟩
         ·obtain ⟨g,rfl,lW,fR⟩:=qJ hg;refine zbP ?_;rw [ab ⟨Sb,h5.1.code,by rw [kz];simpa using dJ⟩,h6 g lW]
         ·cases rm:rs p.e f (.block (d+1)) r2.tail with
          | error x=>rw [rm] at h7;exact b8.tr (y:=.error x) h7
          | ok y=>obtain ⟨b3,r3⟩:=y;rw [rm] at h7;obtain ⟨rfl,h7⟩:=h7;exact ⟨by rw [cW],b8.tr h7⟩
        ·rw [F dJ];refine ⟨one (if is p 0 eN=true then 9 else 10) (tok p 0).at_ [] [c,b],q2,fun g hg=>?_,by rw [vo,cW],h5⟩;obtain ⟨g,rfl,lW,fR⟩:=qJ hg;refine zbP ?_;rw [F (fun h0=>by have:=h0.2.2;rw [kz] at this;exact dJ (by simpa using this))]
       ·rw [F HA] at vo |-
        have Sb:¬ is p 0 eN=true:=by rw [hi _ av];simpa using HA
        refine ⟨one (if is p 0 eN=true then 9 else 10) (tok p 0).at_ [] [c,b],q2,fun g hg=>?_,by rw [vo,cW],h5⟩;obtain ⟨g,rfl,lW,fR⟩:=qJ hg;refine zbP ?_;rw [F (fun h0=>Sb h0.1)]
     ·rw [show p.next.e=p.e from rfl] at M;rw [M] at h |-;have h3:=hn.tr (y:=.error x) h3;refine ⟨one (if is p 0 eN=true then 9 else 10) (tok p 0).at_ [] [c,one 14 (tok (want q [41]) 0).at_ [] []],want q [41],fun g hg=>?_,h3⟩;obtain ⟨g,rfl,lW,fR⟩:=qJ hg;rw [iS,ij,ab hp.code,F vz,ab qf,I g fR];simp only;rw [Sk h3.err aq];simp only;rw [F (fun h0=>h3.err h0.2.1)]
    rw [F hc] at h |-
    have qf:¬ (is p 0 eN=true\/is p 0 ei=true):=by rw [hi _ av,hi _ av];simpa using hc
    by_cases hr:sign ts 0=dR
    ·rw [ab hr]
     have uE:is p 0 dR=true:=by rw [hi _ av];simpa using hr
     obtain ⟨tv,zX,_⟩:=ej av hr;have hn:=hp;rw [zX] at hn
     have hn:=hn.next
     obtain ⟨t,q,I,M⟩:=MG (d:=d+1) (b:=[59]) hn.1 av;rw [show p.next.e=p.e from rfl] at M;refine ⟨one 11 (tok p 0).at_ [] [t],want q [59],fun g hg=>?_,?_⟩
     ·obtain ⟨g,rfl,lW,fR⟩:=qJ hg;rw [iS,ij,ab hp.code,F vz,F qf,ab uE,I g fR]
     ·rcases M with ⟨r,r',M,h3,h4⟩ | ⟨r,x,M,h3,h4⟩ | ⟨x,M,h4⟩
      ·exact zfD
      ·exact zdy
      ·rw [M];exact zb0
    rw [F hr] at h |-
    have uE:¬ is p 0 dR=true:=by rw [hi _ av];simpa using hr
    cases ts with
    | nil =>
     have ht:tok p 0=⟨0,0,[],p.e⟩:=by rw [On.tok hp];rfl
     have mx:¬ ((tok p 0).kind=2/\is p 1 [61]=true):=fun hx=>by have:=hx.1;rw [ht] at this;simp at this
     obtain ⟨t,q,I,M⟩:=MH (d:=d+1) hp (aD _)
     rcases M with ⟨r,M,h3⟩ | ⟨x,M,h3⟩
     ·exact zfu
     ·have mw:¬ yN p q t:=fun h0=>h3.err h0.2.1
      refine ⟨one 12 (tok p 0).at_ [] [t],want q [59],fun g hg=>?_,by unfold simple;rw [M,ia h3.err];exact h3⟩;exact zbi
    | cons a r0 =>
     simp only [simple] at h |-
     have ht:tok p 0=a:=by rw [On.tok hp];rfl
     by_cases cq:a.kind=2/\sign (a::r0) 1=[61]
     ·rw [ab cq];have mx:(tok p 0).kind=2/\is p 1 [61]=true:=⟨by rw [ht];exact cq.1,by rw [BD];simpa using cq.2⟩;obtain ⟨t,q,I,M⟩:=PQ (d:=d+1) hp
      rcases M with ⟨r,M,h3⟩ | ⟨x,M,h3⟩
      ·rw [M];refine ⟨one 7 (tok p 0).at_ (tok p 0).s [t],want q [59],fun g hg=>?_,by rw [cW];rfl,h3⟩;exact zdL
      ·rw [M];refine ⟨one 7 (tok p 0).at_ (tok p 0).s [t],want q [59],fun g hg=>?_,h3⟩;exact zdL
     ·rw [F cq]
      have mx:¬ ((tok p 0).kind=2/\is p 1 [61]=true):=fun hx=>cq ⟨by rw [<-ht];exact hx.1,by have:=hx.2;rw [BD] at this;simpa using this⟩
      obtain ⟨t,q,I,M⟩:=MH (d:=d+1) hp (aD _)
      rcases M with ⟨r,M,h3⟩ | ⟨x,M,h3⟩
      ·rw [M];simp only;have kz:is q 0 [61]=decide (sign r 0=[61]):=On.is h3.1 0 av
       by_cases jJ:t.n.kind=3/\t.n.at_=a.at_/\sign r 0=[61]
       ·rw [ab jJ];obtain ⟨a',pre,ht1,Uu⟩:=OE M;cases ht1;obtain ⟨rV,YV,w,HP,qD⟩:=(Uu (On.srt hp hs)).2 jJ.1 jJ.2.1
        have ZQ:wC q=[93]:=by rw [<-qD];exact On.last hp h3 (by rw [<-HP];rfl)
        have mw:yN p q t:=⟨jJ.1,h3.1.code,ZQ,by rw [ht];exact jJ.2.1,by rw [ht];exact rV,by rw [kz];simpa using jJ.2.2⟩;obtain ⟨ix,zP⟩:=Qu _ _ _ _ _ _ (fun k d out hj=>by cases hj) M jJ.1
        have lD:Go.Xp.aV p.e [61] r=.ok r.tail:=by unfold Go.Xp.aV;rw [ab jJ.2.2]
        have hwa:=On.want h3.1 (s:=[61]) av;rw [h3.2.2,lD] at hwa;have hn:=h3.tr hwa;obtain ⟨v,q2,h4,h5⟩:=MG (d:=d+1) (b:=[59]) hn.1 av;rw [hn.2.2] at h5;rw [hn.2.1] at h4;refine ⟨one 8 (tok p 0).at_ t.n.s [ix,v],want q2 [59],fun g hg=>?_,?_⟩
        ·obtain ⟨g,rfl,lW,fR⟩:=qJ hg;rw [iS,ij,ab hp.code,F vz,F qf,F uE,F mx,I g fR];simp only;rw [ab mw,zP,h4 g fR]
        ·unfold Go.Xp.inner;rw [lD];simp only
         rcases h5 with ⟨r2,r',M,h3,h4⟩ | ⟨r2,x,M,h3,h4⟩ | ⟨x,M,h4⟩
         ·rw [M];simp only;rw [h3];exact ⟨by rw [ht,zP];rfl,hn.tr h4⟩
         ·exact zdy
         ·rw [M];exact zb0
       ·rw [F jJ]
        have mw:¬ yN p q t:=fun h0=>jJ ⟨h0.1,by rw [<-ht];exact h0.2.2.2.1,by have:=h0.2.2.2.2.2;rw [kz] at this;simpa using this⟩
        refine ⟨one 12 (tok p 0).at_ [] [t],want q [59],fun g hg=>?_,?_⟩
        ·exact zbi
        ·rcases nM h3.1 (s:=[59]) av with ⟨r',h4,h5⟩ | ⟨x,h4,h5⟩
         ·rw [h3.2.2] at h4;rw [h4];exact ⟨by rw [ht],h3.tr h5⟩
         ·rw [h3.2.2] at h4;rw [h4];exact h3.tr (y:=.error x) h5
      ·rw [M]
       have mw:¬ yN p q t:=fun h0=>h3.err h0.2.1
       refine ⟨one 12 (tok p 0).at_ [] [t],want q [59],fun g hg=>?_,by rw [ia h3.err];exact h3⟩;exact zbi
  ·rw [rs.body] at h |-;have hi:is p 0 [125]=decide (sign ts 0=[125]):=On.is hp 0 av
   by_cases hb:sign ts 0=[125]
   ·rw [ab hb];have hm:=On.want hp (s:=[125]) av;unfold Go.Xp.aV at hm;rw [ab hb] at hm;refine ⟨acc,p,fun g hg=>?_,rfl,hm⟩;obtain ⟨g,rfl,lW,fR⟩:=qJ hg;rw [iB,F (fun h0=>by have:=h0.2;rw [hi] at this;simp [hb] at this)]
   ·rw [F hb] at h |-
    have bW:rs p.e f (.stmt d) ts≠.error bf:=fun h0=>h zfV
    obtain ⟨a,q,I,M⟩:=C.stmt d ts p hp hs bW;have hc:p.code=0/\is p 0 [125]=false:=⟨hp.code,by rw [hi];simpa using hb⟩
    cases he:rs p.e f (.stmt d) ts with
    | error x =>
     rw [he] at M h;refine ⟨acc++[a],q,fun g hg=>?_,by rw [ia (cj.err M)];exact M⟩;obtain ⟨g,rfl,lW,fR⟩:=qJ hg;rw [iB,ab hc,I g lW];simp only;obtain ⟨g,rfl⟩:∃ g',g=g'+1:=⟨g - 1,by omega⟩;rw [iB,F (fun h0=>cj.err M h0.1)]
    | ok y =>
     obtain ⟨a',r⟩:=y;rw [he] at M h;obtain ⟨rfl,M⟩:=M;simp only at h |-;rw [<-M.2.2] at h |-;obtain ⟨l,q3,h3,h4⟩:=C.body d (acc++[a]) r q M.1 (by rw [M.2.1];exact hs) h;rw [Gk M.2.1] at h3;refine ⟨l,q3,fun g hg=>?_,kx.tr M h4⟩;obtain ⟨g,rfl,lW,fR⟩:=qJ hg;rw [iB,ab hc,I g lW];exact h3 g lW
section
variable {p q:RS}
theorem ue {k:Nat} (h:(tok p k).kind≠0):p.i+k < p.l.length:=by
 unfold tok at h
 refine Nat.lt_of_not_le fun hn=>?_
 rw [List.getElem?_eq_none_iff.2 hn] at h;exact h rfl
theorem is_lt {k:Nat} {s:ae} (h:is p k s=true):p.i+k < p.l.length:=by
 unfold is at h;rw [aH] at h;exact ue (by have:=h.1;simp at this;omega)
theorem lh {s:ae} (h:is p 0 s=true):p.to p.next:=ek (is_lt h)
theorem yW (hp:p.ok):p.to (lS p):=nJ hp _ _
theorem cS (hp:p.ok) (s:ae):p.to (want p s):=by
 unfold want;split
 ·split
  ·rename_i h;exact lh h
  ·exact yW hp
 ·exact lx hp
theorem jt (hp:p.ok):p.to (bF p):=by
 unfold bF;split
 ·split
  ·rename_i h;split
   ·exact nJ hp _ _
   ·exact ek (ue (k:=0) aq)
  ·exact yW hp
 ·exact lx hp
theorem wM (hp:p.ok) (d:Nat):p.to (ct p d):=by
 unfold ct;split
 ·exact nJ hp _ _
 ·exact lx hp
theorem qv {d:Nat} (h:(ct p d).code=0):ct p d=p:=by
 unfold ct at h |-;split at h
 ·unfold RS.fail at h;split at h
  ·cases h
  ·rename_i hd hc;exact absurd h hc
 ·rename_i hd;rw [F hd]
end
theorem kB:∀ (f:Nat),(∀ j p t q,p.ok->iE f j p=some (t,q)->p.to q)/\(∀ d acc p l q,p.ok->iA f d acc p=some (l,q)->p.to q)
 | 0=>⟨fun j p t q _ h=>by simp [iE] at h,fun d acc p l q _ h=>by simp [iA] at h⟩
 | f+1=>by
  obtain ⟨I,M⟩:=kB f;refine ⟨fun j p t q hp h=>?_,fun d acc p l q hp h=>?_⟩
  ·cases j with
   | expr d =>
    rw [iE] at h;have hd:=wM hp d;split at h
    ·exact hd.trans (I _ _ _ _ (hd.ok hp) h)
    ·cases h;exact hd
   | level k d =>
    rw [iE] at h;split at h
    ·exact I _ _ _ _ hp h
    ·split at h
     ·cases h
     ·rename_i out p' he;have:=I _ _ _ _ hp he;exact zcz
   | loop k d out =>
    rw [iE] at h;split at h
    ·rename_i hc;have hn:=ek (p:=p) (ue (k:=0) (by have:=hc.2.1;omega));split at h
     ·cases h
     ·exact zeC
    ·cases h;exact lx hp
   | operand d =>
    rw [iE] at h;split at h
    ·split at h
     ·rename_i hc
      have hn:p.to p.next:=by rcases hc with hc | hc | hc <;> exact lh hc
      split at h
      ·cases h
      ·rename_i a p' he
       cases h;exact hn.trans (I _ _ _ _ (hn.ok hp) he)
     ·split at h
      ·rename_i hk
       cases h;exact ek (ue (k:=0) aq)
      ·split at h
       ·rename_i hc;have hn:=lh hc;split at h
        ·cases h
        ·rename_i a p' he;have:=hn.trans (I _ _ _ _ (hn.ok hp) he)
         cases h;exact zbB
       ·have hn:=jt hp;split at h
        ·split at h
         ·rename_i hc;have b8:=hn.trans (lh hc);split at h
          ·cases h
          ·rename_i a p' he;have:=b8.trans (I _ _ _ _ (b8.ok hp) he)
           cases h;exact zbB
         ·split at h
          ·rename_i hc;have b8:=hn.trans (lh hc);split at h
           ·cases h
           ·rename_i a p' he
            cases h;exact b8.trans (M _ _ _ _ _ (b8.ok hp) he)
          ·cases h;exact hn
        ·cases h;exact hn
    ·cases h;exact wM hp d
  ·rw [iA] at h;split at h
   ·have hn:p.to (if acc.length=0 then p else want p [44]):=by
     split
     ·exact lx hp
     ·exact cS hp _
    split at h
    ·cases h
    ·rename_i a p' he;have:=hn.trans (I _ _ _ _ (hn.ok hp) he);exact zdK
   ·cases h;exact cS hp _
theorem Gs:∀ (f:Nat),(∀ j p t q,p.ok->iS f j p=some (t,q)->p.to q)/\(∀ d acc p l q,p.ok->iB f d acc p=some (l,q)->p.to q)
 | 0=>⟨fun j p t q _ h=>by simp [iS] at h,fun d acc p l q _ h=>by simp [iB] at h⟩
 | f+1=>by
  obtain ⟨I,M⟩:=Gs f;have zN:=(kB f).1;refine ⟨fun j p t q hp h=>?_,fun d acc p l q hp h=>?_⟩
  ·cases j with
   | block d =>
    rw [iS] at h;split at h
    ·have hm:=cS hp [123];split at h
     ·cases h
     ·rename_i l p' he;have:=hm.trans (M _ _ _ _ _ (hm.ok hp) he)
      cases h;exact zbB
    ·cases h;exact wM hp d
   | stmt d =>
    rw [iS] at h;split at h
    ·split at h
     ·rename_i hs;have hn:=lh hs;have fm:=hn.trans (jt (hn.ok hp));have lD:=fm.trans (cS (fm.ok hp) [61]);split at h
      ·cases h
      ·rename_i e p' he;have:=lD.trans (zN _ _ _ _ (lD.ok hp) he)
       cases h;exact zbB
     ·split at h
      ·rename_i hs
       have hn:p.to p.next:=by rcases hs with hs | hs <;> exact lh hs
       have lD:=hn.trans (cS (hn.ok hp) [40]);split at h
       ·cases h
       ·rename_i e p' he;have:=lD.trans (zN _ _ _ _ (lD.ok hp) he);have rn:=this.trans (cS (this.ok hp) [41]);split at h
        ·cases h
        ·rename_i b p2 hb;have fJ:=rn.trans (I _ _ _ _ (rn.ok hp) hb);split at h
         ·rename_i hc;have b8:=fJ.trans (lh hc.2.2);split at h
          ·cases h
          ·rename_i b2 p3 zJ
           cases h;exact b8.trans (I _ _ _ _ (b8.ok hp) zJ)
         ·cases h;exact fJ
      ·split at h
       ·rename_i hs;have hn:=lh hs;split at h
        ·cases h
        ·rename_i e p' he;have:=hn.trans (zN _ _ _ _ (hn.ok hp) he)
         cases h;exact zbB
       ·split at h
        ·have fm:=jt hp;have lD:=fm.trans (cS (fm.ok hp) [61]);split at h
         ·cases h
         ·rename_i e p' he;have:=lD.trans (zN _ _ _ _ (lD.ok hp) he)
          cases h;exact zbB
        ·split at h
         ·cases h
         ·rename_i e p' he;have hx:=zN _ _ _ _ hp he;split at h
          ·have hn:=hx.trans (cS (hx.ok hp) [61]);split at h
           ·rename_i a r v p2 hk rm;have:=hn.trans (zN _ _ _ _ (hn.ok hp) rm)
            cases h;exact zbB
           ·cases h
          ·cases h;exact hx.trans (cS (hx.ok hp) _)
    ·cases h;exact wM hp d
  ·rw [iB] at h;split at h
   ·split at h
    ·cases h
    ·rename_i a p' he;have:=I _ _ _ _ hp he;exact zdK
   ·cases h;exact lx hp
theorem xJ (p:RS):p.next.i=p.i+1:=rfl
theorem Yp:∀ (f:Nat) j p t q,p.ok->iE f j p=some (t,q)->q.code=0->(∀ k d out,j≠.loop k d out)->p.i < q.i:=by
 intro f
 induction f with
 | zero=>intro j p t q _ h;simp [iE] at h
 | succ f ih =>
  intro j p t q hp h hq hj
  cases j with
  | loop k d out=>exact absurd rfl (hj k d out)
  | expr d =>
   rw [iE] at h;split at h
   ·rename_i hc;rw [qv hc] at h;exact ih _ _ _ _ hp h hq (fun k d out h=>by cases h)
   ·rename_i hc;cases h;exact absurd hq hc
  | level k d =>
   rw [iE] at h;split at h
   ·exact ih _ _ _ _ hp h hq (fun k d out h=>by cases h)
   ·split at h
    ·cases h
    ·rename_i out p' he;have lX:=(kB f).1 _ _ _ _ hp he
     have aj:p'.code=0:=by
      by_cases hc:p'.code=0
      ·exact hc
      ·cases f with
       | zero=>simp [iE] at h
       | succ f =>
        rw [iE,F (fun h0=>hc h0.1)] at h
        cases h;exact hq
     have I:=ih _ _ _ _ hp he aj (fun k d out h=>by cases h);have M:=(kB f).1 _ _ _ _ (lX.ok hp) h;have:=M.2.2.2;omega
  | operand d =>
   rw [iE] at h;split at h
   ·split at h
    ·rename_i hc
     have hn:p.to p.next:=by rcases hc with hc | hc | hc <;> exact lh hc
     split at h
     ·cases h
     ·rename_i a p' he;cases h;have:=((kB f).1 _ _ _ _ (hn.ok hp) he).2.2.2;rw [xJ] at this;omega
    ·split at h
     ·cases h;rw [xJ];omega
     ·split at h
      ·rename_i hc;have hn:=lh hc;split at h
       ·cases h
       ·rename_i a p' he;cases h;have I:=(kB f).1 _ _ _ _ (hn.ok hp) he;have M:=(cS ((I.ok (hn.ok hp))) [41]).2.2.2;have:=I.2.2.2;rw [xJ] at this;omega
      ·have hn:=jt hp;split at h
       ·rename_i jF
        have aj:p.i < (bF p).i:=by
         unfold bF at jF |-;split at jF
         ·rename_i h0;split at jF
          ·rename_i M;split at jF
           ·unfold RS.fail at jF;rw [ab h0] at jF;cases jF
           ·rename_i hl;rw [ab h0,ab M,F hl,xJ];omega
          ·unfold lS RS.fail at jF;rw [ab h0] at jF;cases jF
         ·rename_i h0;exact absurd jF h0
        split at h
        ·rename_i hc;have b8:=hn.trans (lh hc);split at h
         ·cases h
         ·rename_i a p' he;cases h;have I:=(kB f).1 _ _ _ _ (b8.ok hp) he;have M:=(cS ((I.ok (b8.ok hp))) [93]).2.2.2;have:=I.2.2.2;rw [xJ] at this;omega
        ·split at h
         ·rename_i hc;have b8:=hn.trans (lh hc);split at h
          ·cases h
          ·rename_i a p' he;cases h;have:=((kB f).2 _ _ _ _ _ (b8.ok hp) he).2.2.2;rw [xJ] at this;omega
         ·cases h;exact aj
       ·rename_i jF;cases h;exact absurd hq jF
   ·rename_i hc;cases h;exact absurd hq hc
end Go.Im
namespace Go.Xp
mutual
def aJ:T->Nat
 | .mk _ l=>az l+1
def az:List T->Nat
 | []=>0
 | t::r=>aJ t+az r
end
def bh:Nat->List T->List Int
 | _,[]=>[]
 | n,t::r=>(n:Int)::bh (n+aJ t) r
mutual
def gL:Nat->T->List Nd
 | n,.mk nd l=>⟨nd.kind,nd.at_,nd.n,nd.s,bh (n+1) l⟩::bU (n+1) l
def bU:Nat->List T->List Nd
 | _,[]=>[]
 | n,t::r=>gL n t++bU (n+aJ t) r
end
theorem eB (t:T):aJ t=az t.kids+1:=by cases t;rw [aJ];rfl
theorem Hc (n:Nat) (t:T):gL n t=⟨t.n.kind,t.n.at_,t.n.n,t.n.s,bh (n+1) t.kids⟩::bU (n+1) t.kids:=by cases t;rw [gL];rfl
theorem jE (a b:List T):az (a++b)=az a+az b:=by
 induction a with
 | nil=>simp [az]
 | cons t a ih=>simp only [cons_append,az,ih];omega
theorem pZ (a b:List T) (n:Nat):bh n (a++b)=bh n a++bh (n+az a) b:=by
 induction a generalizing n with
 | nil=>simp [bh,az]
 | cons t a ih=>simp only [cons_append,bh,az,ih,gn]
theorem nt (a b:List T) (n:Nat):bU n (a++b)=bU n a++bU (n+az a) b:=by
 induction a generalizing n with
 | nil=>simp [bU,az]
 | cons t a ih=>simp only [cons_append,bU,az,ih,gn,de]
theorem c6 (a:List T) (n:Nat):(bh n a).length=a.length:=by
 induction a generalizing n with
 | nil=>rfl
 | cons t a ih=>simp [bh,ih]
theorem OJ:∀ (N:Nat),(∀ t:T,aJ t<=N->∀ n,(gL n t).length=aJ t)/\(∀ l:List T,az l<=N->∀ n,(bU n l).length=az l):=by
 intro N
 induction N with
 | zero =>
  refine ⟨fun t h=>by rw [eB] at h;omega,fun l h n=>?_⟩
  cases l with
  | nil=>rfl
  | cons t l=>rw [az,eB] at h;omega
 | succ N ih =>
  have I:∀ t:T,aJ t<=N+1->∀ n,(gL n t).length=aJ t:=fun t h n=>by
   rw [eB] at h;rw [Hc,eB,length_cons,ih.2 _ aq]
  refine ⟨I,fun l=>?_⟩
  induction l with
  | nil=>intro _ n;rfl
  | cons t l ih2 =>
   intro h n;rw [az] at h;rw [bU,aM,I t aq,ih2 aq,az]
theorem sT (t:T) (n:Nat):(gL n t).length=aJ t:=(OJ (aJ t)).1 t (aD _) n
theorem jA (l:List T) (n:Nat):(bU n l).length=az l:=(OJ (az l)).2 l (aD _) n
theorem kl (l:List T) (k:Nat):az (l.take k)<=az l:=by
 have:az l=az (l.take k)+az (l.drop k):=by rw [<-jE,List.take_append_drop]
 omega
theorem km {l:List T} {k:Nat} {t:T} (h:l[k]?=some t):az (l.take (k+1))=az (l.take k)+aJ t:=by
 have:l.take (k+1)=l.take k++[t]:=by rw [bS,h];rfl
 rw [this,jE,az,az];rfl
theorem bK (l:List T):l.length<=az l:=by
 induction l with
 | nil=>simp
 | cons t l ih=>rw [az,eB,length_cons];omega
open Go.Sp (bs eP)
abbrev K:=Int × Int × ae
def kf (t:Tok):K:=(t.kind,t.n,t.s)
abbrev kS (s:ae):K:=(3,0,s)
abbrev kN (s:ae):K:=(2,0,s)
abbrev kI (n:Int):K:=(1,n,[])
inductive E where
 | num (n:Int)
 | name (s:ae)
 | at_ (s:ae) (a:E)
 | call (s:ae) (l:List E)
 | un (s:ae) (a:E)
 | bin (s:ae) (a b:E)
def eO (s:ae):Nat:=(levels.findIdx? fun l=>l.contains s).getD 9
def E.lv:E->Nat
 | .bin s _ _=>eO s
 | _=>9
def brk (lv k:Nat) (x:List K):List K:=if lv < k then kS [40]::(x++[kS [41]]) else x
mutual
def E.tk:E->List K
 | .num n=>[kI n]
 | .name s=>[kN s]
 | .at_ s a=>kN s::kS [91]::(a.tk++[kS [93]])
 | .call s l=>kN s::kS [40]::(E.oD l++[kS [41]])
 | .un s a=>kS s::brk a.lv 9 a.tk
 | .bin s a b=>brk a.lv (eO s) a.tk++kS s::brk b.lv (eO s+1) b.tk
def E.oD:List E->List K
 | []=>[]
 | a::l=>a.tk++E.sw l
def E.sw:List E->List K
 | []=>[]
 | a::l=>kS [44]::(a.tk++E.sw l)
end
mutual
def E.tree:E->T
 | .num n=>.mk ⟨1,0,n,[],[]⟩ []
 | .name s=>.mk ⟨2,0,0,s,[]⟩ []
 | .at_ s a=>.mk ⟨3,0,0,s,[]⟩ [a.tree]
 | .call s l=>.mk ⟨4,0,0,s,[]⟩ (E.trees l)
 | .un s a=>.mk ⟨5,0,0,s,[]⟩ [a.tree]
 | .bin s a b=>.mk ⟨6,0,0,s,[]⟩ [a.tree,b.tree]
def E.trees:List E->List T
 | []=>[]
 | a::l=>a.tree::E.trees l
end
def Ka (lv k d:Nat) (f:Nat->Bool):Bool:=if lv < k then decide (d<=60)&&decide (d+1<=60)&&f (d+2) else f d
mutual
def E.fit:E->Nat->Bool
 | .num _,d=>decide (d<=60)
 | .name _,d=>decide (d<=60)
 | .at_ _ a,d=>decide (d<=60)&&decide (d+1<=60)&&a.fit (d+2)
 | .call _ l,d=>decide (d<=60)&&E.fits l (d+1)
 | .un _ a,d=>decide (d<=60)&&(if a.lv < 9 then decide (d+1<=60)&&decide (d+2<=60)&&a.fit (d+3) else a.fit (d+1))
 | .bin s a b,d=>(if a.lv < eO s then decide (d<=60)&&decide (d+1<=60)&&a.fit (d+2) else a.fit d)&&(if b.lv < eO s+1 then decide (d<=60)&&decide (d+1<=60)&&b.fit (d+2) else b.fit d)
def E.fits:List E->Nat->Bool
 | [],_=>true
 | a::l,d=>decide (d<=60)&&a.fit (d+1)&&E.fits l d
end
mutual
def E.ok:E->Bool
 | .num n=>decide (0<=n)&&decide (n<=2147483647)
 | .name s=>bs s
 | .at_ s a=>bs s&&a.ok
 | .call s l=>bs s&&E.df l
 | .un s a=>(s==[45] || s==[33] || s==[126])&&a.ok
 | .bin s a b=>eP s&&a.ok&&b.ok
def E.df:List E->Bool
 | []=>true
 | a::l=>a.ok&&E.df l
end
mutual
def er:T->T
 | .mk n l=>.mk ⟨n.kind,0,n.n,n.s,[]⟩ (aU l)
def aU:List T->List T
 | []=>[]
 | t::l=>er t::aU l
end
theorem Km (l k:List T):aU (l++k)=aU l++aU k:=by
 induction l with
 | nil=>rfl
 | cons t l ih=>simp [aU,ih]
theorem uV (l:List T):aU l=l.map er:=by
 induction l with
 | nil=>rfl
 | cons t l ih=>simp [aU,ih]
theorem eG (k a:Int) (s:ae) (l:List T):er (one k a s l)=.mk ⟨k,0,0,s,[]⟩ (aU l):=by unfold one;rw [er]
def Ev (e:Int) (j:qp) (ts:List Tok) (x:Rd T):Prop:=∃ f0,∀ f,f0<=f->rd e f j ts=x
def Ea (e:Int) (d:Nat) (acc:List T) (ts:List Tok) (x:Rd (List T)):Prop:=∃ f0,∀ f,f0<=f->rd.args e f d acc ts=x
section
variable {e:Int} {d k:Nat} {ts r:List Tok} {t out:T} {x:Rd T} {y:Er}
theorem Bq {j j':qp} {ts kg:List Tok} {x x':Rd T} (h:Ev e j ts x) (hs:∀ f,rd e f j ts=x->rd e (f+1) j' kg=x'):Ev e j' kg x':=by
 exact zcg
theorem ev2 {j j' j2:qp} {ts kg xZ:List Tok} {x x' x2:Rd T} (h:Ev e j ts x) (M:Ev e j2 xZ x2) (hs:∀ f,rd e f j ts=x->rd e f j2 xZ=x2->rd e (f+1) j' kg=x'):Ev e j' kg x':=by
 exact zbK
theorem OD {j':qp} {kg:List Tok} {x':Rd T} (hs:∀ f,rd e (f+1) j' kg=x'):Ev e j' kg x' :=
 ⟨1,fun f hf=>by obtain ⟨f,rfl⟩:∃ g,f=g+1:=⟨f - 1,by omega⟩;exact hs f⟩
theorem Ev.expr (hd:d<=60) (h:Ev e (.level 0 (d+1)) ts x):Ev e (.expr d) ts x:=Bq h fun f h=>by rw [rd,F aq];exact h
theorem Ev.ZF (hd:60 < d):Ev e (.expr d) ts (.error (9,place e ts)):=OD fun f=>by rw [rd,ab hd]
theorem Ev.level (hk:k≠9) (h:Ev e (.level (k+1) d) ts (.ok (out,r))) (M:Ev e (.loop k d out) r x):Ev e (.level k d) ts x:=ev2 h M fun f h M=>by rw [rd,F hk,h];exact M
theorem Ev.Yy (hk:k≠9) (h:Ev e (.level (k+1) d) ts (.error y)):Ev e (.level k d) ts (.error y):=Bq h fun f h=>by rw [rd,F hk,h]
theorem Ev.H6 (h:Ev e (.operand d) ts x):Ev e (.level 9 d) ts x:=Bq h fun f h=>by rw [rd,ab rfl];exact h
theorem Ev.stop (h:sign ts 0 ∉ levels.getD k []):Ev e (.loop k d out) ts (.ok (out,ts)):=OD fun f=>by
 cases ts with
 | nil=>rw [rd]
 | cons t r =>
  rw [rd,F];rintro ⟨h3,h4⟩;apply h;simp only [sign,getElem?_cons_zero,bD,h3,if_true];exact h4
theorem Ev.go {t:Tok} {b:T} {r':List Tok} (h3:t.kind=3) (hs:t.s∈levels.getD k []) (h:Ev e (.level (k+1) d) r (.ok (b,r'))) (M:Ev e (.loop k d (one 6 t.at_ t.s [out,b])) r' x):Ev e (.loop k d out) (t::r) x :=
 ev2 h M fun f h M=>by rw [rd,ab ⟨h3,hs⟩,h];exact M
theorem Ev.goX {t:Tok} (h3:t.kind=3) (hs:t.s∈levels.getD k []) (h:Ev e (.level (k+1) d) r (.error y)):Ev e (.loop k d out) (t::r) (.error y) :=
 Bq h fun f h=>by rw [rd,ab ⟨h3,hs⟩,h]
theorem Ev.TU (hd:60 < d):Ev e (.operand d) ts (.error (9,place e ts)):=OD fun f=>by rw [rd.eq_def];simp only;rw [ab hd]
theorem Ev.num {t:Tok} (hd:d<=60) (h:t.kind=1):Ev e (.operand d) (t::r) (.ok (.mk ⟨1,t.at_,t.n,[],[]⟩ [],r)):=OD fun f=>by
 rw [rd.eq_def];simp only;rw [F aq,F aq,ab h]
theorem Ev.un {t:Tok} {a:T} {r':List Tok} (hd:d<=60) (h3:t.kind=3) (hs:t.s=[45]\/t.s=[33]\/t.s=[126]) (h:Ev e (.operand (d+1)) r (.ok (a,r'))):Ev e (.operand d) (t::r) (.ok (one 5 t.at_ t.s [a],r')) :=
 Bq h fun f h=>by rw [rd.eq_def];simp only;rw [F aq,ab h3,ab hs,h]
theorem Ev.unX {t:Tok} (hd:d<=60) (h3:t.kind=3) (hs:t.s=[45]\/t.s=[33]\/t.s=[126]) (h:Ev e (.operand (d+1)) r (.error y)):Ev e (.operand d) (t::r) (.error y) :=
 Bq h fun f h=>by rw [rd.eq_def];simp only;rw [F aq,ab h3,ab hs,h]
theorem Ev.par {t u:Tok} {a:T} {r':List Tok} (hd:d<=60) (h3:t.kind=3) (hs:t.s=[40]) (hu:u.kind=3) (gW:u.s=[41]) (h:Ev e (.expr (d+1)) r (.ok (a,u::r'))):Ev e (.operand d) (t::r) (.ok (a,r')) :=
 Bq h fun f h=>by
  rw [rd.eq_def];simp only;rw [F aq,ab h3,F zf2,ab hs,h];simp only [aV,sign,getElem?_cons_zero,bD,hu,if_true,gW,tail_cons]
theorem Ev.ab1 {t:Tok} (hd:d<=60) (h3:t.kind=3) (hs:t.s=[40]) (h:Ev e (.expr (d+1)) r (.error y)):Ev e (.operand d) (t::r) (.error y) :=
 Bq h fun f h=>by rw [rd.eq_def];simp only;rw [F aq,ab h3,F zf2,ab hs,h]
theorem uW {t:Tok} (M:t.kind=2) (hl:t.s.length<=12):name e (t::r)=.ok (t.s,r):=by
 simp only [name,M,if_true];rw [F aq]
theorem Ev.name {t:Tok} (hd:d<=60) (M:t.kind=2) (hl:t.s.length<=12) (n1:sign r 0≠[91]) (n2:sign r 0≠[40]):Ev e (.operand d) (t::r) (.ok (one 2 t.at_ t.s [],r)):=OD fun f=>by
 refine zbD ?_;rw [F n1,F n2]
theorem Ev.ix {t u w:Tok} {a:T} {r':List Tok} (hd:d<=60) (M:t.kind=2) (hl:t.s.length<=12) (hu:u.kind=3) (gW:u.s=[91]) (hw:w.kind=3) (FB:w.s=[93]) (h:Ev e (.expr (d+1)) r (.ok (a,w::r'))):Ev e (.operand d) (t::u::r) (.ok (one 3 t.at_ t.s [a],r')) :=
 Bq h fun f h=>by
  refine zbD ?_;rw [ab (by simp only [sign,getElem?_cons_zero,bD,hu,if_true,gW]),tail_cons,h];simp only [aV,sign,getElem?_cons_zero,bD,hw,if_true,FB,tail_cons]
theorem Ev.ixX {t u:Tok} (hd:d<=60) (M:t.kind=2) (hl:t.s.length<=12) (hu:u.kind=3) (gW:u.s=[91]) (h:Ev e (.expr (d+1)) r (.error y)):Ev e (.operand d) (t::u::r) (.error y) :=
 Bq h fun f h=>by
  refine zbD ?_;rw [ab (by simp only [sign,getElem?_cons_zero,bD,hu,if_true,gW]),tail_cons,h]
theorem Ev.call {t u:Tok} {l:List T} {r':List Tok} (hd:d<=60) (M:t.kind=2) (hl:t.s.length<=12) (hu:u.kind=3) (gW:u.s=[40]) (h:Ea e (d+1) [] r (.ok (l,r'))):Ev e (.operand d) (t::u::r) (.ok (one 4 t.at_ t.s l,r')):=by
 obtain ⟨f0,h0⟩:=h;refine ⟨f0+1,fun f hf=>?_⟩;obtain ⟨f,rfl⟩:∃ g,f=g+1:=⟨f - 1,by omega⟩
 have hs:sign (u::r) 0=[40]:=by simp only [sign,getElem?_cons_zero,bD,hu,if_true,gW]
 exact zeW
theorem Ev.Zz {t u:Tok} (hd:d<=60) (M:t.kind=2) (hl:t.s.length<=12) (hu:u.kind=3) (gW:u.s=[40]) (h:Ea e (d+1) [] r (.error y)):Ev e (.operand d) (t::u::r) (.error y):=by
 obtain ⟨f0,h0⟩:=h;refine ⟨f0+1,fun f hf=>?_⟩;obtain ⟨f,rfl⟩:∃ g,f=g+1:=⟨f - 1,by omega⟩
 have hs:sign (u::r) 0=[40]:=by simp only [sign,getElem?_cons_zero,bD,hu,if_true,gW]
 exact zeW
theorem Ea.nil {u:Tok} {acc:List T} (hu:u.kind=3) (gW:u.s=[41]):Ea e d acc (u::r) (.ok (acc,r)):=⟨1,fun f hf=>by
 obtain ⟨f,rfl⟩:∃ g,f=g+1:=⟨f - 1,by omega⟩
 have hs:sign (u::r) 0=[41]:=by simp only [sign,getElem?_cons_zero,bD,hu,if_true,gW]
 rw [rd.args,ab hs];rfl⟩
theorem Ea.first {a:T} {r':List Tok} {x:Rd (List T)} (hs:sign r 0≠[41]) (h:Ev e (.expr d) r (.ok (a,r'))) (M:Ea e d [a] r' x):Ea e d [] r x:=by
 obtain ⟨f0,h0⟩:=h;obtain ⟨di,I⟩:=M;refine ⟨f0+di+1,fun f hf=>?_⟩;obtain ⟨f,rfl⟩:∃ g,f=g+1:=⟨f - 1,by omega⟩;rw [rd.args,F hs,ab rfl];simp only;rw [h0 f aq];exact I f aq
theorem Ea.W5 {a:T} (hs:sign r 0≠[41]) (h:Ev e (.expr d) r (.error y)):Ea e d [] r (.error y):=by
 obtain ⟨f0,h0⟩:=h;refine ⟨f0+1,fun f hf=>?_⟩;obtain ⟨f,rfl⟩:∃ g,f=g+1:=⟨f - 1,by omega⟩;rw [rd.args,F hs,ab rfl];simp only;rw [h0 f aq]
theorem Ea.more {u:Tok} {acc:List T} {a:T} {r':List Tok} {x:Rd (List T)} (ha:acc≠[]) (hu:u.kind=3) (gW:u.s=[44]) (h:Ev e (.expr d) r (.ok (a,r'))) (M:Ea e d (acc++[a]) r' x):Ea e d acc (u::r) x:=by
 obtain ⟨f0,h0⟩:=h;obtain ⟨di,I⟩:=M;refine ⟨f0+di+1,fun f hf=>?_⟩;obtain ⟨f,rfl⟩:∃ g,f=g+1:=⟨f - 1,by omega⟩
 have hs:sign (u::r) 0=[44]:=by simp only [sign,getElem?_cons_zero,bD,hu,if_true,gW]
 rw [rd.args,F zf2,F ha,aV,ab hs];simp only [tail_cons];rw [h0 f aq];exact I f aq
theorem Ea.aaa {u:Tok} {acc:List T} (ha:acc≠[]) (hu:u.kind=3) (gW:u.s=[44]) (h:Ev e (.expr d) r (.error y)):Ea e d acc (u::r) (.error y):=by
 obtain ⟨f0,h0⟩:=h;refine ⟨f0+1,fun f hf=>?_⟩;obtain ⟨f,rfl⟩:∃ g,f=g+1:=⟨f - 1,by omega⟩
 have hs:sign (u::r) 0=[44]:=by simp only [sign,getElem?_cons_zero,bD,hu,if_true,gW]
 rw [rd.args,F zf2,F ha,aV,ab hs];simp only [tail_cons];rw [h0 f aq]
structure Stop (r:List Tok) (k:Nat):Prop where
 a:sign r 0≠[91]
 b:sign r 0≠[40]
 c:∀ j,k < j->sign r 0 ∉ levels.getD j []
theorem Stop.mono {k':Nat} (h:Stop r k) (hk:k<=k'):Stop r k':=⟨h.a,h.b,fun j hj=>h.c j aq⟩
theorem Ev.lift {m:Nat} (h:Ev e (.level m d) ts (.ok (t,r))) (hm:m<=9) (hs:Stop r k):∀ n,m=k+1+n->Ev e (.loop k d t) r x->Ev e (.level k d) ts x:=by
 intro n
 induction n generalizing m with
 | zero=>intro he M;exact Ev.level aq (by rw [<-he];exact h) M
 | succ n ih =>
  intro he M;exact ih (m:=k+1+n) (Ev.level aq (by rw [show k+1+n+1=m by omega];exact h) (Ev.stop (hs.c _ aq))) aq rfl M
theorem Ev.UG {m:Nat} (h:Ev e (.level m d) ts (.error y)) (hm:m<=9):∀ n,m=k+n->Ev e (.level k d) ts (.error y):=by
 intro n
 induction n generalizing m with
 | zero=>intro he;subst he;exact h
 | succ n ih=>intro he;exact ih (m:=k+n) (Ev.Yy aq (by rw [show k+n+1=m by omega];exact h)) aq rfl
def Rt (e:Int) (k d:Nat) (ts rest:List Tok) (Q:T->Prop) (b:Bool):Prop :=
 (b=true->∃ t,Q t/\(k < 9->∀ x,Ev e (.loop k d t) rest x->Ev e (.level k d) ts x)/\(k=9->Ev e (.level 9 d) ts (.ok (t,rest))))/\(b=false->∃ pos,Ev e (.level k d) ts (.error (9,pos)))
def Ro (e:Int) (d:Nat) (ts rest:List Tok) (Q:T->Prop) (b:Bool):Prop :=
 (b=true->∃ t,Q t/\Ev e (.operand d) ts (.ok (t,rest)))/\(b=false->∃ pos,Ev e (.operand d) ts (.error (9,pos)))
def Rx (e:Int) (d:Nat) (ts rest:List Tok) (Q:T->Prop) (b:Bool):Prop :=
 (b=true->∃ t,Q t/\Ev e (.expr d) ts (.ok (t,rest)))/\(b=false->∃ pos,Ev e (.expr d) ts (.error (9,pos)))
theorem Ro.rt {rest:List Tok} {Q:T->Prop} {b:Bool} (h:Ro e d ts rest Q b) (hk:k<=9) (hs:Stop rest k):Rt e k d ts rest Q b:=by
 refine ⟨fun hb=>?_,fun hb=>?_⟩
 ·obtain ⟨t,I,M⟩:=h.1 hb;exact ⟨t,I,fun Dd x h3=>Ev.lift (Ev.H6 M) (aD _) hs (8 - k) aq h3,fun _=>Ev.H6 M⟩
 ·obtain ⟨pos,I⟩:=h.2 hb;exact ⟨pos,Ev.UG (Ev.H6 I) (aD _) (9 - k) aq⟩
theorem Rt.down {rest:List Tok} {Q:T->Prop} {b:Bool} {m:Nat} (h:Rt e m d ts rest Q b) (hm:m < 9) (hk:k<=m) (hs:Stop rest k):Rt e k d ts rest Q b:=by
 rcases Nat.lt_or_ge k m with aj | ny
 ·refine ⟨fun hb=>?_,fun hb=>?_⟩
  ·obtain ⟨t,I,M,_⟩:=h.1 hb;have h3:=M hm _ (Ev.stop (hs.c m aj));exact ⟨t,I,fun Dd x h4=>Ev.lift h3 aq hs (m - 1 - k) aq h4,fun h9=>by omega⟩
  ·obtain ⟨pos,I⟩:=h.2 hb;exact ⟨pos,Ev.UG I aq (m - k) aq⟩
 ·obtain rfl:k=m:=by omega
  exact h
theorem Rt.rx {rest:List Tok} {Q:T->Prop} {b:Bool} (h:Rt e 0 (d+1) ts rest Q b) (hs:sign rest 0 ∉ levels.getD 0 []):Rx e d ts rest Q (decide (d<=60)&&b):=by
 by_cases hd:d<=60
 ·have:(decide (d<=60)&&b)=b:=by simp [hd]
  rw [this];refine ⟨fun hb=>?_,fun hb=>?_⟩
  ·obtain ⟨t,I,M,_⟩:=h.1 hb;exact ⟨t,I,Ev.expr hd (M aq _ (Ev.stop hs))⟩
  ·obtain ⟨pos,I⟩:=h.2 hb;exact ⟨pos,Ev.expr hd I⟩
 ·have:(decide (d<=60)&&b)=false:=by simp [hd]
  rw [this];exact ⟨fun hb=>zgK,fun _=>⟨_,Ev.ZF aq⟩⟩
end
theorem Ev.UK {e:Int} {d:Nat} {ts:List Tok} {x:Rd T} (h:Ev e (.level 9 d) ts x):Ev e (.operand d) ts x:=by
 obtain ⟨f0,h0⟩:=h;refine ⟨f0,fun f hf=>?_⟩;have:=h0 (f+1) aq;rw [rd,ab rfl] at this;exact this
theorem Ro.UK {e:Int} {d:Nat} {ts rest:List Tok} {Q:T->Prop} {b:Bool} (h:Rt e 9 d ts rest Q b):Ro e d ts rest Q b :=
 ⟨fun hb=>by obtain ⟨t,I,_,M⟩:=h.1 hb;exact ⟨t,I,(M rfl).UK⟩,fun hb=>by obtain ⟨pos,I⟩:=h.2 hb;exact ⟨pos,I.UK⟩⟩
theorem uY {t:Tok} {r:List Tok} {s:ae} (h:kf t=kS s):sign (t::r) 0=s:=by
 simp only [kf,kS,Prod.mk.injEq] at h;simp only [sign,getElem?_cons_zero,bD,h.1,if_true,h.2.2]
theorem EM {t:Tok} {r:List Tok} (h:t.kind≠3):sign (t::r) 0=[]:=by
 simp only [sign,getElem?_cons_zero,bD,F h]
theorem La {j:Nat} (h:9<=j):levels.getD j []=[]:=by
 rw [List.getD_eq_getElem?_getD,getElem?_eq_none (by simpa [levels] using h)];rfl
theorem F8 {r:List Tok} {s:ae} (h:sign r 0=s) (hs:s=[]\/s=[41]\/s=[93]\/s=[44]\/s=[59]\/s=[61]):Stop r 0:=by
 have h9:∀ j,j < 9->∀ s:ae,(s=[]\/s=[41]\/s=[93]\/s=[44]\/s=[59]\/s=[61])->s ∉ levels.getD j []:=by
  intro j hj s hs
  have:∀ j,j < 9->∀ s∈([[],[41],[93],[44],[59],[61]]:List ae),s ∉ levels.getD j []:=by decide
  exact this j hj s (by simpa using hs)
 refine ⟨?_,?_,fun j _=>?_⟩
 ·exact zcm
 ·exact zcm
 ·rw [h]
  rcases Nat.lt_or_ge j 9 with h0 | h0
  ·exact h9 j h0 s hs
  ·rw [La h0];simp
theorem DM {r:List Tok} {s:ae} (h:sign r 0=s) (hs:s=[]\/s=[41]\/s=[93]\/s=[44]\/s=[59]\/s=[61]):sign r 0 ∉ levels.getD 0 []:=by
 exact zcm
theorem ry {s:ae} (h:eP s=true):eO s < 9/\s∈levels.getD (eO s) []/\s≠[91]/\s≠[40]/\∀ j,eO s < j->s ∉ levels.getD j []:=by
 have hm:s∈levels.flatten:=by
  exact zcR
 have key:∀ s∈levels.flatten,eO s < 9/\s∈levels.getD (eO s) []/\s≠[91]/\s≠[40]/\∀ j,j < 9->eO s < j->s ∉ levels.getD j []:=by decide
 obtain ⟨I,M,h3,h4,h5⟩:=key s hm;refine ⟨I,M,h3,h4,fun j hj=>?_⟩
 rcases Nat.lt_or_ge j 9 with h0 | h0
 ·exact h5 j h0 hj
 ·rw [La h0];simp
theorem E.acd {a:E} (h:a.ok=true):a.lv<=9:=by
 cases a with
 | bin s a b=>simp only [E.ok,aH] at h;exact Nat.le_of_lt (ry h.1.1).1
 | _=>exact aD _
def lQ (a:E):Prop:=∀ (e:Int) (k d:Nat) (ts rest:List Tok),k<=a.lv->a.ok=true->ts.map kf=a.tk->Stop rest k->Rt e k d (ts++rest) rest (fun t=>er t=a.tree) (a.fit d)
def Zs (a:E):Prop:=∀ (e:Int) (k d:Nat) (ts rest:List Tok),k<=9->a.ok=true->ts.map kf=brk a.lv k a.tk->Stop rest k->Rt e k d (ts++rest) rest (fun t=>er t=a.tree) (Ka a.lv k d a.fit)
theorem map_cons {ts:List Tok} {k:K} {l:List K} (h:ts.map kf=k::l):∃ t r,ts=t::r/\kf t=k/\r.map kf=l:=List.map_eq_cons_iff.1 h
theorem dQ {ts:List Tok} {l l':List K} (h:ts.map kf=l++l'):∃ a b,ts=a++b/\a.map kf=l/\b.map kf=l':=List.map_eq_append_iff.1 h
theorem jC {ts:List Tok} {k:K} (h:ts.map kf=[k]):∃ t,ts=[t]/\kf t=k:=by
 obtain ⟨t,r,rfl,I,M⟩:=map_cons h
 have:r=[]:=by simpa using M
 subst this;exact ⟨t,rfl,I⟩
theorem eY {t:Tok} {s:ae} (h:kf t=kS s):t.kind=3/\t.s=s:=by simp only [kf,kS,Prod.mk.injEq] at h;exact ⟨h.1,h.2.2⟩
theorem r9 {t:Tok} {s:ae} (h:kf t=kN s):t.kind=2/\t.s=s:=by simp only [kf,kN,Prod.mk.injEq] at h;exact ⟨h.1,h.2.2⟩
theorem Su {t:Tok} {n:Int} (h:kf t=kI n):t.kind=1/\t.n=n:=by simp only [kf,kI,Prod.mk.injEq] at h;exact ⟨h.1,h.2.1⟩
theorem lQ.rx {a:E} (h:lQ a) {e:Int} {d:Nat} {ts rest:List Tok} {s:ae} (ho:a.ok=true) (ht:ts.map kf=a.tk) (hs:sign rest 0=s) (qh:s=[]\/s=[41]\/s=[93]\/s=[44]\/s=[59]\/s=[61]) :
  Rx e d (ts++rest) rest (fun t=>er t=a.tree) (decide (d<=60)&&a.fit (d+1)):=(h e 0 (d+1) ts rest (aO _) ho ht (F8 hs qh)).rx (DM hs qh)
theorem lQ.good {a:E} (h:lQ a):Zs a:=by
 intro e k d ts rest hk ho ht hs;unfold brk at ht;unfold Ka
 by_cases hl:a.lv < k
 ·rw [ab hl] at ht |-;obtain ⟨t,r,rfl,I,M⟩:=map_cons ht;obtain ⟨A,B,rfl,h3,h4⟩:=dQ M;obtain ⟨u,rfl,h5⟩:=jC h4;obtain ⟨I,dx⟩:=eY I;obtain ⟨h5,Uc⟩:=eY h5;have hx:=h.rx (e:=e) (d:=d+1) (rest:=u::rest) (s:=[41]) ho h3 (by simp only [sign,getElem?_cons_zero,bD,h5,if_true,Uc]) zfL;refine Ro.rt ?_ hk hs
  have he:t::(A++[u])++rest=t::(A++u::rest):=by simp
  rw [he]
  by_cases hd:d<=60
  ·have:(decide (d<=60)&&decide (d+1<=60)&&a.fit (d+2))=(decide (d+1<=60)&&a.fit (d+1+1)):=by simp [hd]
   rw [this];refine ⟨fun hb=>?_,fun hb=>?_⟩
   ·obtain ⟨t',k1,k2⟩:=hx.1 hb;exact ⟨t',k1,Ev.par hd I dx h5 Uc k2⟩
   ·obtain ⟨pos,k1⟩:=hx.2 hb;exact ⟨pos,Ev.ab1 hd I dx k1⟩
  ·have:(decide (d<=60)&&decide (d+1<=60)&&a.fit (d+2))=false:=by simp [hd]
   exact zeE
 ·rw [F hl] at ht |-;exact h e k d ts rest aq ho ht hs
theorem uX {e:Int} {d:Nat} {ts rest:List Tok} {Q:T->Prop} {b:Bool} (h:d<=60->Ro e d ts rest Q b):Ro e d ts rest Q (decide (d<=60)&&b):=by
 by_cases hd:d<=60
 ·have:(decide (d<=60)&&b)=b:=by simp [hd]
  rw [this];exact h hd
 ·have:(decide (d<=60)&&b)=false:=by simp [hd]
  exact zeE
theorem n8 {s:ae} (h:bs s=true):s.length<=12:=by
 simp only [Go.Sp.bs,aH,decide_eq_true_eq] at h;exact h.1.2
theorem RJ (n:Int):lQ (.num n):=by
 intro e k d ts rest hk ho ht hs;obtain ⟨t,rfl,I⟩:=jC ht;obtain ⟨I,M⟩:=Su I;refine Ro.rt ?_ hk hs
 have:=uX (e:=e) (d:=d) (ts:=[t]++rest) (rest:=rest) (Q:=fun t=>er t=(E.num n).tree) (b:=true) fun hd=>⟨fun _=>⟨_,?_,Ev.num hd I⟩,fun h=>by cases h⟩
 ·simpa [E.fit] using this
 ·show er _=_;rw [er,E.tree,M];rfl
theorem Ov (s:ae):lQ (.name s):=by
 intro e k d ts rest hk ho ht hs;obtain ⟨t,rfl,I⟩:=jC ht;obtain ⟨I,M⟩:=r9 I;simp only [E.ok] at ho;refine Ro.rt ?_ hk hs
 have:=uX (e:=e) (d:=d) (ts:=[t]++rest) (rest:=rest) (Q:=fun t=>er t=(E.name s).tree) (b:=true) fun hd=>⟨fun _=>⟨_,?_,Ev.name hd I (by rw [M];exact n8 ho) hs.a hs.b⟩,fun h=>by cases h⟩
 ·simpa [E.fit] using this
 ·show er _=_;rw [eG,E.tree,M];rfl
theorem Vk (s:ae) {a:E} (C:lQ a):lQ (.at_ s a):=by
 intro e k d ts rest hk ho ht hs;simp only [E.ok,aH] at ho;rw [E.tk] at ht;obtain ⟨t,r,rfl,I,M⟩:=map_cons ht;obtain ⟨u,r,rfl,h3,h4⟩:=map_cons M;obtain ⟨A,B,rfl,h5,h6⟩:=dQ h4;obtain ⟨w,rfl,h7⟩:=jC h6;obtain ⟨I,dx⟩:=r9 I;obtain ⟨h3,lV⟩:=eY h3;obtain ⟨h7,mn⟩:=eY h7
 have hl:t.s.length<=12:=by rw [dx];exact n8 ho.1
 have hx:=C.rx (e:=e) (d:=d+1) (rest:=w::rest) (s:=[93]) ho.2 h5 (by simp only [sign,getElem?_cons_zero,bD,h7,if_true,mn]) zfL;refine Ro.rt ?_ hk hs
 have he:t::u::(A++[w])++rest=t::u::(A++w::rest):=by simp
 rw [he,E.fit,Bool.and_assoc]
 refine uX fun hd=>⟨fun hb=>?_,fun hb=>?_⟩
 ·obtain ⟨t',k1,k2⟩:=hx.1 hb;exact ⟨_,by show er _=_;rw [eG,aU,k1,dx,E.tree];rfl,Ev.ix hd I hl h3 lV h7 mn k2⟩
 ·exact zew
theorem Vm (s:ae) {a:E} (C:lQ a):lQ (.un s a):=by
 intro e k d ts rest hk ho ht hs;simp only [E.ok,aH,Bool.or_eq_true,beq_iff_eq] at ho;rw [E.tk] at ht;obtain ⟨t,r,rfl,I,M⟩:=map_cons ht;obtain ⟨I,dx⟩:=eY I;have Dd:k<=9:=hk;have hg:=Ro.UK (C.good e 9 (d+1) r rest (aD _) ho.2 M (hs.mono Dd));refine Ro.rt ?_ hk hs
 have vy:t.s=[45]\/t.s=[33]\/t.s=[126]:=by rw [dx];rcases ho.1 with (h | h) | h <;> simp [h]
 rw [E.fit]
 refine uX fun hd=>⟨fun hb=>?_,fun hb=>?_⟩
 ·obtain ⟨t',k1,k2⟩:=hg.1 hb;exact ⟨_,by show er _=_;rw [eG,aU,k1,dx,E.tree];rfl,Ev.un hd I vy k2⟩
 ·obtain ⟨pos,k1⟩:=hg.2 hb;exact ⟨pos,Ev.unX hd I vy k1⟩
theorem RG (s:ae) {a b:E} (Ca:lQ a) (Cb:lQ b):lQ (.bin s a b):=by
 intro e k d ts rest hk ho ht hs;simp only [E.ok,aH] at ho;obtain ⟨l1,l2,l3,l4,l5⟩:=ry ho.1.1;rw [E.tk] at ht;obtain ⟨A,B,rfl,I,M⟩:=dQ ht;obtain ⟨t,r,rfl,h3,h4⟩:=map_cons M;obtain ⟨h3,lV⟩:=eY h3;have nz:k<=eO s:=hk;have gO:=hs.mono nz;refine Rt.down (m:=eO s) ?_ l1 nz hs
 have eu:sign (t::(r++rest)) 0=s:=by simp only [sign,getElem?_cons_zero,bD,h3,if_true,lV]
 have ga:=Ca.good e (eO s) d A (t::(r++rest)) aq ho.1.2 I ⟨by rw [eu];exact l3,by rw [eu];exact l4,fun j hj=>by rw [eu];exact l5 j hj⟩;have gb:=Cb.good e (eO s+1) d r rest aq ho.2 h4 (gO.mono aq)
 have he:A++t::r++rest=A++t::(r++rest):=by simp
 rw [he,E.fit]
 change Rt e (eO s) d _ rest _ (Ka a.lv (eO s) d a.fit&&Ka b.lv (eO s+1) d b.fit)
 have vy:t.s∈levels.getD (eO s) []:=by rw [lV];exact l2
 cases hfa:Ka a.lv (eO s) d a.fit with
 | false =>
  refine ⟨fun hb=>zgK,fun _=>ga.2 hfa⟩
 | true =>
  obtain ⟨ta,k1,k2,_⟩:=ga.1 hfa
  cases hfb:Ka b.lv (eO s+1) d b.fit with
  | false =>
   refine ⟨fun hb=>zgK,fun _=>?_⟩;obtain ⟨pos,k3⟩:=gb.2 hfb;exact ⟨pos,k2 l1 _ (Ev.goX h3 vy k3)⟩
  | true =>
   refine ⟨fun _=>?_,fun hb=>zgK⟩;obtain ⟨tb,k3,k4,k5⟩:=gb.1 hfb
   have k6:Ev e (.level (eO s+1) d) (r++rest) (.ok (tb,rest)):=by
    rcases Nat.lt_or_ge (eO s+1) 9 with h9 | h9
    ·exact k4 h9 _ (Ev.stop (gO.c _ aq))
    ·have:eO s+1=9:=by omega
     rw [this] at k5 |-;exact k5 rfl
   exact ⟨one 6 t.at_ t.s [ta,tb],by show er _=_;rw [eG,aU,aU,aU,k1,k3,lV,E.tree],fun _ x hx=>k2 l1 x (Ev.go h3 vy k6 hx),fun h9=>by omega⟩
def TY (k:K):Prop:=k.1=1\/k.1=2\/(k.1=3/\(k.2.2=[45]\/k.2.2=[33]\/k.2.2=[126]\/k.2.2=[40]))
theorem E.head:∀ (a:E),a.ok=true->∃ k r,a.tk=k::r/\TY k
 | .num n,_=>⟨_,_,rfl,.inl rfl⟩
 | .name s,_=>⟨_,_,rfl,.inr (.inl rfl)⟩
 | .at_ s a,_=>⟨_,_,rfl,.inr (.inl rfl)⟩
 | .call s l,_=>⟨_,_,rfl,.inr (.inl rfl)⟩
 | .un s a,h=>⟨_,_,rfl,.inr (.inr ⟨rfl,by simp only [E.ok,aH,Bool.or_eq_true,beq_iff_eq] at h;rcases h.1 with (h | h) | h <;> simp [h]⟩)⟩
 | .bin s a b,h=>by
  simp only [E.ok,aH] at h;obtain ⟨k,r,I,M⟩:=E.head a h.1.2;rw [E.tk,brk];split
  ·exact ⟨_,_,rfl,.inr (.inr ⟨rfl,by simp⟩)⟩
  ·rw [I];exact ⟨k,_,rfl,M⟩
theorem Ch {t:Tok} {r:List Tok} (h:TY (kf t)):sign (t::r) 0=[]\/sign (t::r) 0=[45]\/sign (t::r) 0=[33]\/sign (t::r) 0=[126]\/sign (t::r) 0=[40]:=by
 rcases h with h | h | ⟨h,h'⟩
 ·left;exact EM (by simp only [kf] at h;omega)
 ·left;exact EM (by simp only [kf] at h;omega)
 ·right
  have:sign (t::r) 0=t.s:=by simp only [kf] at h;simp only [sign,getElem?_cons_zero,bD,h,if_true]
  rw [this];exact h'
def AF (l:List E):Prop:=∀ (e:Int) (d:Nat) (acc:List T) (ts rest:List Tok) (u:Tok),E.df l=true->acc≠[]->ts.map kf=E.sw l->u.kind=3->u.s=[41] ->
 (E.fits l d=true->∃ ys,aU ys=E.trees l/\Ea e d acc (ts++u::rest) (.ok (acc++ys,rest)))/\(E.fits l d=false->∃ pos,Ea e d acc (ts++u::rest) (.error (9,pos)))
theorem Oo:AF []:=by
 intro e d acc ts rest u _ ha ht hu gW
 have:ts=[]:=by simpa [E.sw] using ht
 subst this;exact ⟨fun _=>⟨[],rfl,by rw [bO];exact Ea.nil hu gW⟩,fun h=>by simp [E.fits] at h⟩
theorem F9 {l:List E} {ts rest:List Tok} {u:Tok} (ht:ts.map kf=E.sw l) (hu:u.kind=3) (gW:u.s=[41]):∃ s,sign (ts++u::rest) 0=s/\(s=[]\/s=[41]\/s=[93]\/s=[44]\/s=[59]\/s=[61]):=by
 cases l with
 | nil =>
  have:ts=[]:=by simpa [E.sw] using ht
  subst this;exact ⟨[41],by simp only [nil_append,sign,getElem?_cons_zero,bD,hu,if_true,gW],by simp⟩
 | cons a l =>
  rw [E.sw] at ht;obtain ⟨t,r,rfl,I,_⟩:=map_cons ht;exact ⟨[44],uY I,by simp⟩
theorem Mk {a:E} {l:List E} (Ca:lQ a) (Cl:AF l):AF (a::l):=by
 intro e d acc ts rest u ho ha ht hu gW;simp only [E.df,aH] at ho;rw [E.sw] at ht;obtain ⟨t,r,rfl,I,M⟩:=map_cons ht;obtain ⟨A,B,rfl,h3,h4⟩:=dQ M;obtain ⟨I,dx⟩:=eY I;obtain ⟨s,iI,kz⟩:=F9 (rest:=rest) h4 hu gW;have hx:=Ca.rx (e:=e) (d:=d) (rest:=B++u::rest) (s:=s) ho.1 h3 iI kz
 have he:t::(A++B)++u::rest=t::(A++(B++u::rest)):=by simp
 rw [he,E.fits]
 cases hfa:decide (d<=60)&&a.fit (d+1) with
 | false =>
  refine ⟨fun hb=>zgy,fun _=>?_⟩;obtain ⟨pos,k1⟩:=hx.2 hfa;exact ⟨pos,Ea.aaa ha I dx k1⟩
 | true =>
  obtain ⟨ta,k1,k2⟩:=hx.1 hfa;have hl:=Cl e d (acc++[ta]) B rest u ho.2 zfL h4 hu gW;refine ⟨fun hb=>?_,fun hb=>?_⟩
  ·obtain ⟨ys,k3,k4⟩:=hl.1 zf3;exact ⟨ta::ys,by rw [aU,k1,k3,E.trees],Ea.more ha I dx k2 (by rw [de] at k4;exact k4)⟩
  ·obtain ⟨pos,k3⟩:=hl.2 zf3;exact ⟨pos,Ea.more ha I dx k2 k3⟩
theorem Ou (s:ae) {l:List E} (Cf:∀ a r,l=a::r->lQ a/\AF r):lQ (.call s l):=by
 intro e k d ts rest hk ho ht hs;simp only [E.ok,aH] at ho;rw [E.tk] at ht;obtain ⟨t,r,rfl,I,M⟩:=map_cons ht;obtain ⟨u,r,rfl,h3,h4⟩:=map_cons M;obtain ⟨A,B,rfl,h5,h6⟩:=dQ h4;obtain ⟨w,rfl,h7⟩:=jC h6;obtain ⟨I,dx⟩:=r9 I;obtain ⟨h3,lV⟩:=eY h3;obtain ⟨h7,mn⟩:=eY h7
 have hl:t.s.length<=12:=by rw [dx];exact n8 ho.1
 refine Ro.rt ?_ hk hs
 have he:t::u::(A++[w])++rest=t::u::(A++w::rest):=by simp
 rw [he,E.fit]
 refine uX fun hd=>?_
 have key:(E.fits l (d+1)=true->∃ ys,aU ys=E.trees l/\Ea e (d+1) [] (A++w::rest) (.ok (ys,rest)))/\(E.fits l (d+1)=false->∃ pos,Ea e (d+1) [] (A++w::rest) (.error (9,pos))):=by
  cases l with
  | nil =>
   have:A=[]:=by simpa [E.oD] using h5
   subst this;exact ⟨fun _=>⟨[],rfl,Ea.nil h7 mn⟩,fun h=>by simp [E.fits] at h⟩
  | cons a l =>
   obtain ⟨Ca,Cl⟩:=Cf a l rfl;have BH:=ho.2;simp only [E.df,aH] at BH;rw [E.oD] at h5;obtain ⟨A,B,rfl,h3,h4⟩:=dQ h5;obtain ⟨s,iI,kz⟩:=F9 (rest:=rest) h4 h7 mn;have hx:=Ca.rx (e:=e) (d:=d+1) (rest:=B++w::rest) (s:=s) BH.1 h3 iI kz;rw [de]
   have cn:sign (A++(B++w::rest)) 0≠[41]:=by
    obtain ⟨kk,rr,k1,k2⟩:=E.head a BH.1;rw [k1] at h3;obtain ⟨t0,r0,rfl,k3,_⟩:=map_cons h3
    rcases Ch (r:=r0++(B++w::rest)) (by rw [k3];exact k2) with h | h | h | h | h <;> (rw [cons_append,h];decide)
   rw [E.fits]
   cases hfa:decide (d+1<=60)&&a.fit (d+1+1) with
   | false =>
    refine ⟨fun hb=>zgy,fun _=>?_⟩;obtain ⟨pos,k1⟩:=hx.2 hfa;exact ⟨pos,Ea.W5 (a:=T.mk ⟨0,0,0,[],[]⟩ []) cn k1⟩
   | true =>
    obtain ⟨ta,k1,k2⟩:=hx.1 hfa;have nB:=Cl e (d+1) [ta] B rest w BH.2 zfL h4 h7 mn;refine ⟨fun hb=>?_,fun hb=>?_⟩
    ·obtain ⟨ys,k3,k4⟩:=nB.1 zf3;exact ⟨ta::ys,by rw [aU,k1,k3,E.trees],Ea.first cn k2 k4⟩
    ·obtain ⟨pos,k3⟩:=nB.2 zf3;exact ⟨pos,Ea.first cn k2 k3⟩
 refine ⟨fun hb=>?_,fun hb=>?_⟩
 ·obtain ⟨ys,k1,k2⟩:=key.1 hb;exact ⟨_,by show er _=_;rw [eG,k1,dx,E.tree],Ev.call hd I hl h3 lV k2⟩
 ·obtain ⟨pos,k1⟩:=key.2 hb;exact ⟨pos,Ev.Zz hd I hl h3 lV k1⟩
mutual
theorem core:∀ (a:E),lQ a
 | .num n=>RJ n
 | .name s=>Ov s
 | .at_ s a=>Vk s (core a)
 | .call s l=>Ou s (ZA l)
 | .un s a=>Vm s (core a)
 | .bin s a b=>RG s (core a) (core b)
theorem ZA:∀ (l:List E),∀ a r,l=a::r->lQ a/\AF r
 | []=>fun a r h=>by cases h
 | a::r=>fun a' r' h=>by cases h;exact ⟨core a,Oq r⟩
theorem Oq:∀ (l:List E),AF l
 | []=>Oo
 | a::l=>Mk (core a) (Oq l)
end
inductive S where
 | set (s:ae) (a:E)
 | put (s:ae) (a b:E)
 | if1 (c:E) (b:List S)
 | if2 (c:E) (b b2:List S)
 | while_ (c:E) (b:List S)
 | ret (a:E)
 | do_ (a:E)
 | var (s:ae) (a:E)
mutual
def S.tk:S->List K
 | .set s a=>kN s::kS [61]::(a.tk++[kS [59]])
 | .put s a b=>kN s::kS [91]::(a.tk++kS [93]::kS [61]::(b.tk++[kS [59]]))
 | .if1 c b=>kS eN::kS [40]::(c.tk++kS [41]::kS [123]::(S.oD b++[kS [125]]))
 | .if2 c b b2=>kS eN::kS [40]::(c.tk++kS [41]::kS [123]::(S.oD b++kS [125]::kS fp::kS [123]::(S.oD b2++[kS [125]])))
 | .while_ c b=>kS ei::kS [40]::(c.tk++kS [41]::kS [123]::(S.oD b++[kS [125]]))
 | .ret a=>kS dR::(a.tk++[kS [59]])
 | .do_ a=>a.tk++[kS [59]]
 | .var s a=>kS ja::kN s::kS [61]::(a.tk++[kS [59]])
def S.oD:List S->List K
 | []=>[]
 | a::l=>a.tk++S.oD l
end
mutual
def S.tree:S->T
 | .set s a=>.mk ⟨7,0,0,s,[]⟩ [a.tree]
 | .put s a b=>.mk ⟨8,0,0,s,[]⟩ [a.tree,b.tree]
 | .if1 c b=>.mk ⟨9,0,0,[],[]⟩ [c.tree,.mk ⟨14,0,0,[],[]⟩ (S.trees b)]
 | .if2 c b b2=>.mk ⟨9,0,0,[],[]⟩ [c.tree,.mk ⟨14,0,0,[],[]⟩ (S.trees b),.mk ⟨14,0,0,[],[]⟩ (S.trees b2)]
 | .while_ c b=>.mk ⟨10,0,0,[],[]⟩ [c.tree,.mk ⟨14,0,0,[],[]⟩ (S.trees b)]
 | .ret a=>.mk ⟨11,0,0,[],[]⟩ [a.tree]
 | .do_ a=>.mk ⟨12,0,0,[],[]⟩ [a.tree]
 | .var s a=>.mk ⟨13,0,0,s,[]⟩ [a.tree]
def S.trees:List S->List T
 | []=>[]
 | a::l=>a.tree::S.trees l
end
def rO (a:E) (d:Nat):Bool:=decide (d<=60)&&a.fit (d+1)
mutual
def S.fit:S->Nat->Bool
 | .set _ a,d=>decide (d<=60)&&rO a (d+1)
 | .put s a b,d=>decide (d<=60)&&(rO (.at_ s a) (d+1)&&rO b (d+1))
 | .if1 c b,d=>decide (d<=60)&&(rO c (d+1)&&(decide (d+1<=60)&&S.fits b (d+2)))
 | .if2 c b b2,d=>decide (d<=60)&&(rO c (d+1)&&((decide (d+1<=60)&&S.fits b (d+2))&&(decide (d+1<=60)&&S.fits b2 (d+2))))
 | .while_ c b,d=>decide (d<=60)&&(rO c (d+1)&&(decide (d+1<=60)&&S.fits b (d+2)))
 | .ret a,d=>decide (d<=60)&&rO a (d+1)
 | .do_ a,d=>decide (d<=60)&&rO a (d+1)
 | .var _ a,d=>decide (d<=60)&&rO a (d+1)
def S.fits:List S->Nat->Bool
 | [],_=>true
 | a::l,d=>a.fit d&&S.fits l d
end
mutual
def S.ok:S->Bool
 | .set s a=>bs s&&a.ok
 | .put s a b=>bs s&&(a.ok&&b.ok)
 | .if1 c b=>c.ok&&S.df b
 | .if2 c b b2=>c.ok&&(S.df b&&S.df b2)
 | .while_ c b=>c.ok&&S.df b
 | .ret a=>a.ok
 | .do_ a=>a.ok
 | .var s a=>bs s&&a.ok
def S.df:List S->Bool
 | []=>true
 | a::l=>a.ok&&S.df l
end
def Es (e:Int) (j:sN) (ts:List Tok) (x:Rd T):Prop:=∃ f0,∀ f,f0<=f->rs e f j ts=x
def Eb (e:Int) (d:Nat) (acc:List T) (ts:List Tok) (x:Rd (List T)):Prop:=∃ f0,∀ f,f0<=f->rs.body e f d acc ts=x
theorem Ev.ex {e:Int} {d:Nat} {ts:List Tok} {x:Rd T} (h:Ev e (.expr d) ts x):Go.Xp.expr e d ts=x:=by
 obtain ⟨f0,h0⟩:=h;rw [<-Ec (e:=e) (d:=d) (ts:=ts) (f:=f0+(20 * ts.length+12)) aq];exact h0 _ aq
def Xx (e:Int) (d:Nat) (ts rest:List Tok) (Q:T->Prop) (b:Bool):Prop :=
 (b=true->∃ t,Q t/\expr e d ts=.ok (t,rest))/\(b=false->∃ pos,expr e d ts=.error (9,pos))
theorem Rx.xx {e:Int} {d:Nat} {ts rest:List Tok} {Q:T->Prop} {b:Bool} (h:Rx e d ts rest Q b):Xx e d ts rest Q b :=
 ⟨fun hb=>by obtain ⟨t,I,M⟩:=h.1 hb;exact ⟨t,I,M.ex⟩,fun hb=>by obtain ⟨pos,I⟩:=h.2 hb;exact ⟨pos,I.ex⟩⟩
theorem E.xx {a:E} {e:Int} {d:Nat} {ts rest:List Tok} {s:ae} (ho:a.ok=true) (ht:ts.map kf=a.tk) (hs:sign rest 0=s) (qh:s=[]\/s=[41]\/s=[93]\/s=[44]\/s=[59]\/s=[61]) :
  Xx e d (ts++rest) rest (fun t=>er t=a.tree) (rO a d):=((core a).rx ho ht hs qh).xx
def Sx (e:Int) (j:sN) (ts rest:List Tok) (Q:T->Prop) (b:Bool):Prop :=
 (b=true->∃ t,Q t/\Es e j ts (.ok (t,rest)))/\(b=false->∃ pos,Es e j ts (.error (9,pos)))
section
variable {e:Int} {d:Nat} {ts rest:List Tok} {Q:T->Prop} {b:Bool}
theorem uy {j:sN} {x:Rd T} (hs:∀ f,rs e (f+1) j ts=x):Es e j ts x :=
 ⟨1,fun f hf=>by obtain ⟨f,rfl⟩:∃ g,f=g+1:=⟨f - 1,by omega⟩;exact hs f⟩
theorem rE (h:d<=60->Sx e (.stmt d) ts rest Q b):Sx e (.stmt d) ts rest Q (decide (d<=60)&&b):=by
 by_cases hd:d<=60
 ·have:(decide (d<=60)&&b)=b:=by simp [hd]
  rw [this];exact h hd
 ·have:(decide (d<=60)&&b)=false:=by simp [hd]
  exact zdr
theorem sX {u:Tok} {s:ae} (hu:u.kind=3) (gW:u.s=s):aV e s (u::rest)=.ok rest:=by
 have hs:sign (u::rest) 0=s:=by simp only [sign,getElem?_cons_zero,bD,hu,if_true,gW]
 unfold aV;rw [ab hs];rfl
theorem vM {u:Tok} {s:ae} (hu:u.kind=3) (gW:u.s=s):sign (u::rest) 0=s:=by simp only [sign,getElem?_cons_zero,bD,hu,if_true,gW]
theorem xz {a:E} {u w:Tok} {A:List Tok} {sa sb:ae} (ho:a.ok=true) (ht:A.map kf=a.tk) (hu:u.kind=3) (gW:u.s=sa) (hw:w.kind=3) (FB:w.s=sb) (Yh:sb=[]\/sb=[41]\/sb=[93]\/sb=[44]\/sb=[59]\/sb=[61]) :
  (rO a d=true->∃ t,er t=a.tree/\inner e d sa sb (u::(A++w::rest))=.ok (t,rest))/\(rO a d=false->∃ pos,inner e d sa sb (u::(A++w::rest))=.error (9,pos)):=by
 have hx:=E.xx (e:=e) (d:=d) (rest:=w::rest) ho ht (vM hw FB) Yh;unfold inner;rw [sX hu gW];refine ⟨fun hb=>?_,fun hb=>?_⟩
 ·obtain ⟨t,I,M⟩:=hx.1 hb;exact ⟨t,I,by simp only;rw [M];simp only;rw [sX hw FB]⟩
 ·obtain ⟨pos,I⟩:=hx.2 hb;exact ⟨pos,by simp only;rw [I]⟩
theorem LF {a:E} {v u w:Tok} {A:List Tok} (ho:a.ok=true) (hv:v.kind=2) (hvl:v.s.length<=12) (ht:A.map kf=a.tk) (hu:u.kind=3) (gW:u.s=[61]) (hw:w.kind=3) (FB:w.s=[59]) :
  (rO a d=true->∃ t,er t=a.tree/\mF e d (v::u::(A++w::rest))=.ok ((v.s,t),rest))/\(rO a d=false->∃ pos,mF e d (v::u::(A++w::rest))=.error (9,pos)):=by
 have hi:=xz (e:=e) (d:=d) (rest:=rest) ho ht hu gW hw FB zfL;unfold mF;rw [uW hv hvl];refine ⟨fun hb=>?_,fun hb=>?_⟩
 ·obtain ⟨t,I,M⟩:=hi.1 hb;exact ⟨t,I,by simp only;rw [M]⟩
 ·obtain ⟨pos,I⟩:=hi.2 hb;exact ⟨pos,by simp only;rw [I]⟩
theorem jT {t:Tok} {s:ae} (h:t.kind=2) (hs:s≠[]):sign (t::rest) 0≠s:=by rw [EM aq];exact fun h=>hs h.symm
def tD (s:S):Prop:=∀ (e:Int) (d:Nat) (ts rest:List Tok),s.ok=true->ts.map kf=s.tk->sign rest 0≠fp->Sx e (.stmt d) (ts++rest) rest (fun t=>er t=s.tree) (s.fit d)
theorem RO (s:ae) (a:E):tD (.set s a):=by
 intro e d ts rest ho ht _;simp only [S.ok,aH] at ho;rw [S.tk] at ht;obtain ⟨t,r,rfl,I,M⟩:=map_cons ht;obtain ⟨u,r,rfl,h3,h4⟩:=map_cons M;obtain ⟨A,B,rfl,h5,h6⟩:=dQ h4;obtain ⟨w,rfl,h7⟩:=jC h6;obtain ⟨I,dx⟩:=r9 I;obtain ⟨h3,lV⟩:=eY h3;obtain ⟨h7,mn⟩:=eY h7
 have he:t::u::(A++[w])++rest=t::u::(A++w::rest):=by simp
 have hx:=LF (e:=e) (d:=d+1) (rest:=rest) ho.2 I (by rw [dx];exact n8 ho.1) h5 h3 lV h7 mn;rw [he,S.fit];have cq:t.kind=2/\sign (t::u::(A++w::rest)) 1=[61]:=⟨I,by simp only [sign,List.getElem?_cons_succ,getElem?_cons_zero,bD,h3,if_true,lV]⟩
 refine rE fun hd=>⟨fun hb=>?_,fun hb=>?_⟩
 ·obtain ⟨t',k1,k2⟩:=hx.1 hb;refine ⟨one 7 t.at_ t.s [t'],by show er _=_;rw [eG,aU,k1,dx,S.tree];rfl,uy fun f=>?_⟩;refine zep ?_;rw [ab cq,k2]
 ·obtain ⟨pos,k1⟩:=hx.2 hb;refine ⟨pos,uy fun f=>?_⟩;refine zep ?_;rw [ab cq,k1]
theorem RP (s:ae) (a:E):tD (.var s a):=by
 intro e d ts rest ho ht _;simp only [S.ok,aH] at ho;rw [S.tk] at ht;obtain ⟨v,r,rfl,h0,ht⟩:=map_cons ht;obtain ⟨t,r,rfl,I,M⟩:=map_cons ht;obtain ⟨u,r,rfl,h3,h4⟩:=map_cons M;obtain ⟨A,B,rfl,h5,h6⟩:=dQ h4;obtain ⟨w,rfl,h7⟩:=jC h6;obtain ⟨h0,vl⟩:=eY h0;obtain ⟨I,dx⟩:=r9 I;obtain ⟨h3,lV⟩:=eY h3;obtain ⟨h7,mn⟩:=eY h7
 have he:v::t::u::(A++[w])++rest=v::t::u::(A++w::rest):=by simp
 have hx:=LF (e:=e) (d:=d+1) (rest:=rest) ho.2 I (by rw [dx];exact n8 ho.1) h5 h3 lV h7 mn;rw [he,S.fit]
 refine rE fun hd=>⟨fun hb=>?_,fun hb=>?_⟩
 ·obtain ⟨t',k1,k2⟩:=hx.1 hb;refine ⟨one 13 v.at_ t.s [t'],by show er _=_;rw [eG,aU,k1,dx,S.tree];rfl,uy fun f=>?_⟩;rw [rs,F aq];simp only;rw [ab (vM h0 vl),tail_cons,k2];rfl
 ·obtain ⟨pos,k1⟩:=hx.2 hb;refine ⟨pos,uy fun f=>?_⟩;rw [rs,F aq];simp only;rw [ab (vM h0 vl),tail_cons,k1]
theorem RM (a:E):tD (.ret a):=by
 intro e d ts rest ho ht _;simp only [S.ok] at ho;rw [S.tk] at ht;obtain ⟨v,r,rfl,h0,h4⟩:=map_cons ht;obtain ⟨A,B,rfl,h5,h6⟩:=dQ h4;obtain ⟨w,rfl,h7⟩:=jC h6;obtain ⟨h0,vl⟩:=eY h0;obtain ⟨h7,mn⟩:=eY h7
 have he:v::(A++[w])++rest=v::(A++w::rest):=by simp
 have hx:=E.xx (e:=e) (d:=d+1) (rest:=w::rest) ho h5 (vM h7 mn) zfL;rw [he,S.fit];have hs:=vM (rest:=A++w::rest) h0 vl
 refine rE fun hd=>⟨fun hb=>?_,fun hb=>?_⟩
 ·obtain ⟨t',k1,k2⟩:=hx.1 hb;refine ⟨one 11 v.at_ [] [t'],by show er _=_;rw [eG,aU,k1,S.tree];rfl,uy fun f=>?_⟩;rw [rs,F aq];simp only;rw [F zf2,F zf2,ab hs,tail_cons,k2];simp only;rw [sX h7 mn];rfl
 ·obtain ⟨pos,k1⟩:=hx.2 hb;refine ⟨pos,uy fun f=>?_⟩;rw [rs,F aq];simp only;rw [F zf2,F zf2,ab hs,tail_cons,k1]
def sZ (l:List K):Prop:=∀ k∈l,k.1=3->k.2.2≠[61]
theorem s9 {l l':List K}:sZ (l++l')↔sZ l/\sZ l':=by
 unfold sZ;constructor
 ·intro h;exact ⟨fun k hk=>h k (List.mem_append_left _ hk),fun k hk=>h k (List.mem_append_right _ hk)⟩
 ·rintro ⟨I,M⟩ k hk;rcases pQ hk with hk | hk
  ·exact I k hk
  ·exact M k hk
theorem iV {a:K} {l:List K}:sZ (a::l)↔(a.1=3->a.2.2≠[61])/\sZ l:=by
 unfold sZ;simp only [List.mem_cons,forall_eq_or_imp]
theorem qW:sZ []:=fun k hk=>by cases hk
theorem Aj {lv k:Nat} {x:List K} (h:sZ x):sZ (brk lv k x):=by
 unfold brk;split
 ·rw [iV,s9,iV];exact ⟨fun _=>by decide,h,fun _=>by decide,qW⟩
 ·exact h
mutual
theorem E.A4:∀ (a:E),a.ok=true->sZ a.tk
 | .num n,_=>by rw [E.tk,iV];exact ⟨fun h=>zfS,qW⟩
 | .name s,_=>by rw [E.tk,iV];exact ⟨fun h=>zfS,qW⟩
 | .at_ s a,h=>by
  simp only [E.ok,aH] at h;rw [E.tk,iV,iV,s9,iV];exact ⟨fun h=>zfS,fun _=>av,E.A4 a h.2,fun _=>av,qW⟩
 | .call s l,h=>by
  simp only [E.ok,aH] at h;rw [E.tk,iV,iV,s9,iV];exact ⟨fun h=>zfS,fun _=>av,(E.Qm l h.2).1,fun _=>av,qW⟩
 | .un s a,h=>by
  simp only [E.ok,aH,Bool.or_eq_true,beq_iff_eq] at h;rw [E.tk,iV];exact ⟨fun _=>(by rcases h.1 with (h | h) | h <;> (simp only [kS,h];decide)),Aj (E.A4 a h.2)⟩
 | .bin s a b,h=>by
  simp only [E.ok,aH] at h;rw [E.tk,s9,iV];exact ⟨Aj (E.A4 a h.1.2),fun _ h0=>(by simp only [kS] at h0;rw [h0] at h;exact absurd h.1.1 av),Aj (E.A4 b h.2)⟩
theorem E.Qm:∀ (l:List E),E.df l=true->sZ (E.oD l)/\sZ (E.sw l)
 | [],_=>by rw [E.oD,E.sw];exact ⟨qW,qW⟩
 | a::l,h=>by
  simp only [E.df,aH] at h;have I:=E.A4 a h.1;have M:=E.Qm l h.2;rw [E.oD,E.sw,s9,iV,s9];exact ⟨⟨I,M.2⟩,fun _=>av,I,M.2⟩
end
theorem Nn {ts:List Tok} {k:Nat} {s:ae} (h:∀ t,ts[k]?=some t->t.kind=3->t.s≠s) (hs:s≠[]):sign ts k≠s:=by
 unfold sign
 cases hk:ts[k]? with
 | none=>exact fun h=>hs h.symm
 | some t =>
  simp only [bD];split
  ·rename_i h3;exact h t hk h3
  ·exact fun h=>hs h.symm
theorem Jt {a:E} {A:List Tok} {w:Tok} (ho:a.ok=true) (h5:A.map kf=a.tk) (hw:w.s≠[61]):sign (A++w::rest) 1≠[61]:=by
 obtain ⟨k0,r0,hh,_⟩:=E.head a ho;refine Nn (fun t ht h3 vy=>?_) av
 have hlen:1<=A.length:=by
  have:=congrArg List.length h5;rw [hh] at this;simp at this;omega
 rw [getElem?_append] at ht;split at ht
 ·have hm:kf t∈a.tk:=by rw [<-h5];exact List.mem_map_of_mem (br ht)
  exact E.A4 a ho _ hm h3 vy
 ·have:1 - A.length=0:=by omega
  rw [this] at ht;cases ht;exact hw vy
theorem Vl (a:E):tD (.do_ a):=by
 intro e d ts rest ho ht _;simp only [S.ok] at ho;rw [S.tk] at ht;obtain ⟨A,B,rfl,h5,h6⟩:=dQ ht;obtain ⟨w,rfl,h7⟩:=jC h6;obtain ⟨h7,mn⟩:=eY h7
 have he:A++[w]++rest=A++w::rest:=by simp
 have hx:=E.xx (e:=e) (d:=d+1) (rest:=w::rest) ho h5 (vM h7 mn) zfL;have Di:=Jt (rest:=rest) (w:=w) ho h5 (by rw [mn];decide);obtain ⟨k0,r0,hh,hf⟩:=E.head a ho;obtain ⟨t,r,rfl,h8,_⟩:=map_cons (by rw [<-hh];exact h5);rw [he,S.fit];rw [cons_append] at hx Di |-;have hfs:=Ch (r:=r++w::rest) (by rw [h8];exact hf)
 have cq:¬ (t.kind=2/\sign (t::(r++w::rest)) 1=[61]):=fun h=>Di h.2
 have cZ:∀ s:ae,s=ja\/s=eN\/s=ei\/s=dR->sign (t::(r++w::rest)) 0≠s:=by
  intro s hs;rcases hfs with h | h | h | h | h <;> rcases hs with rfl | rfl | rfl | rfl <;> (rw [h];decide)
 refine rE fun hd=>⟨fun hb=>?_,fun hb=>?_⟩
 ·obtain ⟨t',k1,k2⟩:=hx.1 hb;refine ⟨one 12 t.at_ [] [t'],by show er _=_;rw [eG,aU,k1,S.tree];rfl,uy fun f=>?_⟩;refine zc2 ?_;rw [F cq,k2];simp only;rw [F (fun h=>by have:=h.2.2;rw [vM h7 mn] at this;revert this;decide),sX h7 mn]
 ·obtain ⟨pos,k1⟩:=hx.2 hb;refine ⟨pos,uy fun f=>?_⟩;refine zc2 ?_;rw [F cq,k1]
theorem aaF {s:ae} {a:E} {t u w:Tok} {A:List Tok} {sg:ae} (hn:bs s=true) (ho:a.ok=true) (I:t.kind=2) (dx:t.s=s) (h3:u.kind=3) (lV:u.s=[91]) (h5:A.map kf=a.tk) (h7:w.kind=3) (mn:w.s=[93]) (hs:sign rest 0=sg) (qh:sg=[]\/sg=[41]\/sg=[93]\/sg=[44]\/sg=[59]\/sg=[61]) :
  Xx e d (t::u::(A++w::rest)) rest (fun x=>er x=(E.at_ s a).tree/\x.n.kind=3/\x.n.at_=t.at_/\x.n.s=s/\∃ y,x.kids=[y]/\er y=a.tree) (rO (.at_ s a) d):=by
 have hl:t.s.length<=12:=by rw [dx];exact n8 hn
 have hx:=(core a).rx (e:=e) (d:=d+1+1) (rest:=w::rest) (s:=[93]) ho h5 (vM h7 mn) zfL
 have hro:Ro e (d+1) (t::u::(A++w::rest)) rest (fun x=>er x=(E.at_ s a).tree/\x.n.kind=3/\x.n.at_=t.at_/\x.n.s=s/\∃ y,x.kids=[y]/\er y=a.tree) ((E.at_ s a).fit (d+1)):=by
  rw [E.fit,Bool.and_assoc]
  refine uX fun hd=>⟨fun hb=>?_,fun hb=>?_⟩
  ·obtain ⟨t',k1,k2⟩:=hx.1 hb;exact ⟨one 3 t.at_ t.s [t'],⟨by rw [eG,aU,k1,dx,E.tree];rfl,rfl,rfl,dx,_,rfl,k1⟩,Ev.ix hd I hl h3 lV h7 mn k2⟩
  ·exact zew
 exact ((hro.rt (aO 9) (F8 hs qh)).rx (DM hs qh)).xx
theorem RL (s:ae) (a b:E):tD (.put s a b):=by
 intro e d ts rest ho ht _;simp only [S.ok,aH] at ho;rw [S.tk] at ht;obtain ⟨t,r,rfl,I,M⟩:=map_cons ht;obtain ⟨u,r,rfl,h3,h4⟩:=map_cons M;obtain ⟨A,B,rfl,h5,h6⟩:=dQ h4;obtain ⟨w,r,rfl,h7,h8⟩:=map_cons h6;obtain ⟨q,r,rfl,h9,nb⟩:=map_cons h8;obtain ⟨B,C,rfl,qx,qe⟩:=dQ nb;obtain ⟨z,rfl,fv⟩:=jC qe;obtain ⟨I,dx⟩:=r9 I;obtain ⟨h3,lV⟩:=eY h3;obtain ⟨h7,mn⟩:=eY h7;obtain ⟨h9,Fo⟩:=eY h9;obtain ⟨fv,Cj⟩:=eY fv
 have he:t::u::(A++w::q::(B++[z]))++rest=t::u::(A++w::(q::(B++z::rest))):=by simp
 have Yl:=vM (rest:=B++z::rest) h9 Fo;have hx:=aaF (e:=e) (d:=d+1) (rest:=q::(B++z::rest)) ho.1 ho.2.1 I dx h3 lV h5 h7 mn Yl zfL;have hv:=xz (e:=e) (d:=d+1) (rest:=rest) ho.2.2 qx h9 Fo fv Cj zfL;rw [he,S.fit]
 have cq:¬ (t.kind=2/\sign (t::u::(A++w::(q::(B++z::rest)))) 1=[61]):=fun h=>by
  have:=h.2;simp only [sign,List.getElem?_cons_succ,getElem?_cons_zero,bD,h3,if_true,lV] at this
  revert this;decide
 have cZ:∀ s:ae,s≠[]->sign (t::u::(A++w::(q::(B++z::rest)))) 0≠s:=fun s hs=>jT I hs
 refine rE fun hd=>?_
 cases hfa:rO (.at_ s a) (d+1) with
 | false =>
  refine ⟨fun hb=>zgK,fun _=>?_⟩;obtain ⟨pos,k1⟩:=hx.2 hfa;refine ⟨pos,uy fun f=>?_⟩;refine zbI ?_;rw [F cq,k1]
 | true =>
  obtain ⟨x,⟨_,k1,k2,k3,y,k4,k5⟩,k6⟩:=hx.1 hfa;refine ⟨fun hb=>?_,fun hb=>?_⟩
  ·obtain ⟨v,k7,k8⟩:=hv.1 zf3;refine ⟨one 8 t.at_ s [y,v],by show er _=_;rw [eG,aU,aU,k5,k7,S.tree];rfl,uy fun f=>?_⟩;refine zbI ?_;rw [F cq,k6];simp only;rw [ab ⟨k1,k2,Yl⟩,k8];simp only;rw [k3,k4];rfl
  ·obtain ⟨pos,k7⟩:=hv.2 zf3;refine ⟨pos,uy fun f=>?_⟩;refine zbI ?_;rw [F cq,k6];simp only;rw [ab ⟨k1,k2,Yl⟩,k7]
end
end Go.Xp
