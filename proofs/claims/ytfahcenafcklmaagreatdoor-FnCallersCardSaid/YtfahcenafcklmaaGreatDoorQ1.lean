/- Part 1 of proofs that are told in their last texts. -/
open List (cons_append getElem?_append getElem?_cons_zero getElem?_eq_none length_cons mem_map nil_append tail_cons)
set_option linter.unusedVariables false
set_option linter.unusedSimpArgs false
set_option maxRecDepth 100000
namespace Go
theorem zaa {A B:Prop} (h:B) (s:PLift B->A:=by intro hQ;refine ji ?_;refine GL.wk (Wk.freeze (i:=0) rfl rfl rfl (aS _)) ?_;refine GL.wk (Wk.freeze (i:=1) rfl rfl rfl (aS _)) ?_;refine GN (by simp only [pH,oR];rfl) ?_;refine D ?_;exact hQ.1):A:=s ⟨h⟩
theorem zab {A:Prop} (s:A:=by refine ai func129 ntmps129 ?_;refine V [] hS ?_;refine GL.borrow hN (fun B K β w l hI hF=>rn (A:=[_,_,_]) (C:=[]) hI hF rfl rfl rfl) ?_;refine ct ?_;exact gh):A:=s
theorem zac {A B:Prop} (h:B) (s:PLift B->A:=by intro hQ;refine V [0] ht ?_;refine V [0] eX ?_;refine V [0] I ?_;refine V [0] G ?_;exact hQ.1):A:=s ⟨h⟩
theorem zad {A:Prop} (s:A:=by simp only [aL,length_cons,length_nil];omega):A:=s
theorem zae {A:Prop} (s:A:=by generalize tok p 0=tk at *;refine aM (ax 0 45 (.a 45 (.q 46 .nil))) ?_;refine bm ?_;exact jo):A:=s
theorem zaf {A:Prop} (s:A:=by refine V [] hc ?_;refine bY ?_;exact ⟨by first | rfl | (rw [bh];rfl),rfl⟩):A:=s
theorem zag {A:Prop} (s:A:=by refine D ?_;have hc:=fC s hs;rw [h0] at hc;refine V [] hc ?_;exact al):A:=s
theorem zah {A:Prop} (s:A:=by exact ⟨rfl,rfl⟩):A:=s
theorem zai {A B:Prop} (h:B) (s:PLift B->A:=by intro hQ;refine GL.fO 1 rfl rfl rfl rfl rfl rfl rfl rfl az jm ?_;exact hQ.1):A:=s ⟨h⟩
theorem zaj {A:Prop} (s:A:=by rw [nC];exact ⟨x,⟨_,_,Wk.aH ao,_,_,rfl,rfl,by omega,e2,e3,e1⟩,by omega⟩):A:=s
theorem zak {A:Prop} (s:A:=by obtain ⟨⟨kk,aa,vv,ss,ks⟩,l⟩:=t;obtain ⟨I,G,h3,hl⟩:=fE ht;simp only at I G h3;subst I G h3;obtain ⟨x,rfl,hx⟩:=zH hl;simp only [E.ok,aK] at ho;rw [E.tree,wt] at hb;simp only [gB,lim] at hb;have hc:=C x ho.2 hx (by unfold lim;omega);have hle:=(E.len a ho.2).2;have hr:(ba [x])[0]?=some (cT x):=dB rfl;rw [E.full];generalize a.full=y at *;simp only [cT,T.n,T.kids] at |-;refine ai func255 ntmps255 ?_;refine aM (ax 0 8 (.a 8 (ax 9 3 .nil))) ?_;refine aj ?_;refine aC [] hc ?_;exact ay):A:=s
theorem zal {A B:Prop} (h:B) (s:PLift B->A:=by intro hQ;refine ji ?_;refine GL.wk (Wk.freeze (i:=2) rfl rfl rfl (aI _)) ?_;refine GN (by simp only [pH,oR];rfl) ?_;refine GL.wk (Wk.aH (cV:=[U,.v (ii (i:Nat)),U,.box (aq p) 0,U,.loc 3 0,U,U,U,U,U,U,U,strs f.params,U,U,U,U,U,U,U,U,U,U]) ao) ?_;refine GL.wk (Wk.gK 9 1) ?_;exact hQ.1):A:=s ⟨h⟩
theorem zam {A B:Prop} (h:B) (s:PLift B->A:=by intro hQ;refine b8 ?_;refine D ?_;exact hQ.1):A:=s ⟨h⟩
theorem zan {A:Prop} (s:A:=by obtain ⟨⟨kk,aa,vv,ss,ks⟩,l⟩:=t;obtain ⟨I,G,h3,hl⟩:=fE ht;simp only at I G h3;subst I G h3;obtain ⟨x0,rfl,qg⟩:=zH hl;simp only [S.ok] at ho;rw [S.tree,wt] at hb;simp only [gB,lim] at hb;have tH:=tP b (a:=a) ho (by unfold lim;omega) x0 qg;have wT:=lW b a ho;have sU:(ba [x0])[0]?=some (cT x0):=dB rfl;rw [S.bK];generalize a.out b=y0 at *;simp only [cT,T.n,T.kids];refine ai func194 ntmps194 ?_;refine V [] tH ?_;exact al):A:=s
theorem zao {A:Prop} (s:A:=by simp only [List.map_cons,map_nil,getD_cons_zero,getD_cons_succ,aL,length_cons,length_nil] at hlen |-;have vk:=fu b (by rw [ha];simp) X;generalize tx a=x at *;generalize qC tx inl d b=y at *;clear fu eP ih;generalize dp [a,b]=rows at *;refine dh func208 ntmps208 ?_;refine zaa ?_;refine aM (.q 0 (ax 4 8 (.a 1 (.q 2 (.q 3 (.a 12 (.q 13 (.q 14 .nil)))))))) ?_;refine aj ?_;refine rl [] h0 ?_;refine aj ?_;refine aC [] vk ?_;exact ay):A:=s
theorem zap {A B:Prop} (h:B) (s:PLift B->A:=by intro hQ;rw [ah (by simpa using hv)];refine D ?_;refine aM (ax 0 7 (.a 7 (.a 8 (.a 9 .nil)))) ?_;refine aj ?_;refine db ?_;refine aj ?_;exact hQ.1):A:=s ⟨h⟩
theorem zaq {A B:Prop} (h:B) (s:PLift B->A:=by intro hQ;refine cm ?_;refine D ?_;exact hQ.1):A:=s ⟨h⟩
theorem zar {A:Prop} (s:A:=by refine D ?_;exact ⟨_,_,Wk.aH ao,qK.next ⟨c,p,_,_,_,_,ns,rfl,rfl,ic,HG,hw,fQ,hi⟩⟩):A:=s
theorem zas {A B:Prop} (h:B) (s:PLift B->A:=by intro hQ;refine bF ?_;refine D ?_;exact hQ.1):A:=s ⟨h⟩
theorem zat {A B:Prop} (h:B) (s:PLift B->A:=by intro hQ;refine db ?_;refine aj ?_;exact hQ.1):A:=s ⟨h⟩
theorem zau {A:Prop} (s:A:=by rw [S.tk] at ht;obtain ⟨t,r,rfl,I,_⟩:=map_cons ht;exact ⟨t,r,rfl,fun rest=>by rw [wo I];decide⟩):A:=s
theorem zav {A:Prop} (s:A:=by obtain ⟨m5,m6,fin⟩:=fin _ _ e;refine ai func160 ntmps160 ?_;refine V [0] m1 ?_;refine V [0] m2 ?_;refine V [0] m3 ?_;refine aM (ax 0 24 .nil) ?_;refine bm ?_;refine V [0] m4 ?_;refine V [0] (lJ p2.next 7 p2.next.place) ?_;refine V [0] m5 ?_;refine GL.fO 2 rfl rfl rfl rfl rfl rfl rfl rfl az jm ?_;intro a c;refine zaq ?_;refine V [0] m6 ?_;refine gY ?_;exact fin _ _ _ U2):A:=s
theorem zaw {A:Prop} (s:A:=by simp only [nil_append];refine D ?_;refine V [] hG ?_;refine gL ?_;exact la (n:=1) rfl cB rfl (c6 rfl) rfl rfl ⟨none,0,rfl,rfl⟩):A:=s
theorem zax {A B:Prop} (h:B) (s:PLift B->A:=by intro hQ;refine V [0] (dw p 0 hp aD) ?_;refine V [0] (c9 p.next [40] en aD) ?_;refine V [0] (BG (d+1) _ e p1 Br X he) ?_;refine V [0] (c9 p1 [41] mU aD) ?_;refine aM (ax 0 4 (.a 4 (.a 5 (.q 6 .nil)))) ?_;refine aj ?_;exact hQ.1):A:=s ⟨h⟩
theorem zay {A:Prop} (s:A:=by rename_i x hx;exact ⟨fun t r h=>(by cases h),fun h h0=>G (by simp only [rO,length_cons] at h |-;omega) (hx.trans h0)⟩):A:=s
theorem zaz {A:Prop} (s:A:=by refine ai func131 ntmps131 ?_;refine V [] hL ?_;exact al):A:=s
theorem zaA {A:Prop} (s:A:=by refine D ?_;refine GL.borrow hL (fun B K β w l hI hF=>fx (A:=[_,_]) (C:=[_]) hI hF rfl rfl) ?_;refine ct ?_;exact gh):A:=s
theorem zaB {A:Prop} (s:A:=by refine ai func78 ntmps78 ?_;refine V [0] I ?_;refine V [0] h3 ?_;exact al):A:=s
theorem zaC {A:Prop} (s:A:=by have G:=cW code 8 c1 hl i1;have r2:=cK code c1 (n:=8) X;generalize bd code 8 c1=a at *;obtain ⟨j,c2⟩:=a;simp only at G r2 |-;obtain ⟨m,rfl⟩:∃ m:Nat,j=(m:Int):=⟨j.toNat,by omega⟩;have hr:=rf (l:=Cw) (m:=m) (by show m < 8;omega);refine ai func247 ntmps247 ?_;refine V [0] I ?_;refine zam ?_;refine V [0] G ?_;exact al):A:=s
theorem zaD {A:Prop} (s:A:=by exact ⟨_,_,GB,⟨F5,rfl,hq⟩,.pass (x:=.inLoop c) rfl (fun _ _=>.inl (by simp)) Be⟩):A:=s
theorem zaE {A B:Prop} (h:B) (s:PLift B->A:=by intro hQ;refine aj ?_;refine OQ rfl (YG.jS 7 rfl rfl rfl jK hi) ?_;refine l7 ?_;refine aj ?_;exact hQ.1):A:=s ⟨h⟩
theorem zaF {A:Prop} (s:A:=by exact ⟨fun t r h=>(by cases h;simp only [length_cons];omega),fun _ h=>(by cases h)⟩):A:=s
theorem zaG {A:Prop} (s:A:=by obtain ⟨r,mw,eR⟩:=List.mem_flatten.1 (bo h7);exact (h4 r mw).2 g eR):A:=s
theorem zaH {A:Prop} (s:A:=by refine D ?_;exact ⟨rfl,rfl,_,_,Wk.aH ao,rfl,rfl,by rw [cl,bj];rfl⟩):A:=s
theorem zaI {A B:Prop} (h:B) (s:PLift B->A:=by intro hQ;refine D ?_;refine aM (ax 0 7 (.a 7 (ax 8 4 (.q 13 (.q 16 (.a 12 (.q 14 (.q 15 (.a 17 (.q 18 (.a 19 (.q 20 .nil)))))))))))) ?_;exact hQ.1):A:=s ⟨h⟩
theorem zaJ {A:Prop} (s:A:=by exact ⟨_,_,rfl⟩):A:=s
theorem zaK {A:Prop} (s:A:=by rename_i x hm;exact ⟨fun t r h=>(by cases h),fun _ h=>tf hm (by cases h;rfl)⟩):A:=s
theorem zaL {A B:Prop} (h:B) (s:PLift B->A:=by intro hQ;refine cy ?_;refine bm ?_;exact hQ.1):A:=s ⟨h⟩
theorem zaM {A:Prop} (s:A:=by exact ⟨fun h=>absurd h (by simp),fun h=>absurd h (by simp),E.wf a,trivial⟩):A:=s
theorem zaN {A B:Prop} (h:B) (s:PLift B->A:=by intro hQ;refine ct ?_;refine D ?_;exact hQ.1):A:=s ⟨h⟩
theorem zaO {A:Prop} (s:A:=by exact ⟨fun t r h=>(by cases h;omega),fun _ h=>(by cases h)⟩):A:=s
theorem zaP {A B:Prop} (h:B) (s:PLift B->A:=by intro hQ;refine zam ?_;refine V [0] hw ?_;exact hQ.1):A:=s ⟨h⟩
theorem zaQ {A B:Prop} (h:B) (s:PLift B->A:=by intro hQ;refine V [] hB ?_;refine V [] hC ?_;refine V [] hL ?_;refine V [] hX ?_;refine V [] hP ?_;exact hQ.1):A:=s ⟨h⟩
theorem zaR {A:Prop} (s:A:=by have h0:=eP 0 a (by rw [ha];rfl);rw [ha] at hlen |-;rw [ha] at h0;simp only [List.map_cons,map_nil,getD_cons_zero,aL,length_cons,length_nil] at hlen |-;generalize tx a=x at *;generalize dp [a]=rows at *;refine dh func208 ntmps208 ?_;refine zaa ?_;refine ot [] h0 ?_;exact ay):A:=s
theorem zaS {A B:Prop} (h:B) (s:PLift B->A:=by intro hQ;rw [rs,ab av];simp only;rw [ab (by rw [hv];decide),ah (.inl hv),tail_cons,k2];simp only;exact hQ.1):A:=s ⟨h⟩
theorem zaT {A:Prop} (s:A:=by simp only [gB,aL,length_cons,length_nil];omega):A:=s
theorem zaU {A:Prop} (s:A:=by refine GL.fO 2 rfl rfl rfl rfl rfl rfl rfl rfl az jm ?_;intro a c;refine cm ?_;rw [yN,oU];refine D ?_;refine zam ?_;refine V [0] (gA p2 [59] (hx { st with globals:=st.globals++[s] } { h with aG:=a,cG:=c }) eY) ?_;refine c8 ?_;exact ⟨rfl,{ h with aG:=a,cG:=c },rfl⟩):A:=s
theorem zaV {A:Prop} (s:A:=by unfold ik at wO kD;generalize S.dR (E.out b) [123,32] p++[125]=y1 at *;simp only [cT,T.n,T.kids];refine ai func194 ntmps194 ?_;refine aM (ax 0 5 (ax 8 5 (.a 5 (.q 6 (.q 7 (.a 13 (.q 14 (.q 15 .nil)))))))) ?_;refine aj ?_;refine aC [] tH ?_;refine aC [] wO ?_;exact ay):A:=s
theorem zaW {A:Prop} (s:A:=by refine aM (ax 0 7 (.a 7 (.a 8 (.a 9 (.q 10 .nil))))) ?_;refine aj ?_;refine aC [0] Bo ?_;refine zat ?_;refine aC [] kT ?_;exact ay):A:=s
theorem zaX {A:Prop} (s:A:=by refine bA [] (B4 s X) ?_;rintro _ _ ⟨rfl,p,z1,z2,hw,hn,rfl⟩;refine zas ?_;refine gY ?_;exact ⟨c2,p,i2,by omega,hn,rfl,rfl⟩):A:=s
theorem zaZ {A:Prop} (s:A:=by exact ⟨_,jw,rfl,rfl⟩):A:=s
theorem za0 {A:Prop} (s:A:=by refine V [] h ?_;exact al):A:=s
theorem za1 {A:Prop} (s:A:=by subst cS;subst hS;refine bc ?_;refine D ?_;refine gL ?_;exact la (n:=1) rfl cB rfl (c6 rfl) rfl rfl ⟨a,c,rfl,rfl⟩):A:=s
theorem za2 {A B:Prop} (h:B) (s:PLift B->A:=by intro hQ;refine D ?_;refine aM (ax 0 10 (.a 10 (.q 11 (.q 12 .nil)))) ?_;exact hQ.1):A:=s ⟨h⟩
theorem za3 {A:Prop} (s:A:=by rw [he] at h;cases h):A:=s
theorem za4 {A B:Prop} (h:B) (s:PLift B->A:=by intro hQ;refine GL.fO 0 rfl rfl rfl rfl rfl rfl rfl rfl az jm ?_;exact hQ.1):A:=s ⟨h⟩
theorem za5 {A:Prop} (s:A:=by refine zas ?_;refine aM (ax 0 3 (.a 3 (.a 4 (.q 5 .nil)))) ?_;refine aj ?_;refine OA rfl rfl ?_;refine bA [1] (ET code hl c1 i1 p hw) ?_;rintro _ _ ⟨z,c2,i2,hz,rfl,rfl⟩;refine ⟨by simp,?_⟩;refine zaL ?_;refine lp ?_;exact ⟨rfl,p,z,hw,hn,hz,rfl⟩):A:=s
theorem za6 {A:Prop} (s:A:=by refine GL.wk (Wk.jY (t:=108) rfl rfl rfl rfl) ?_;refine cm ?_;refine V [] kT ?_;exact al):A:=s
theorem za7 {A:Prop} (s:A:=by refine zas ?_;refine gY ?_;exact ⟨c2,p,i2,hw,hn,rfl,rfl⟩):A:=s
theorem za8 {A B:Prop} (h:B) (s:PLift B->A:=by intro hQ;refine D ?_;refine aM (ax 0 8 (.a 8 (.q 9 (.q 10 .nil)))) ?_;refine aj ?_;refine bZ [] hA ?_;exact hQ.1):A:=s ⟨h⟩
theorem zba {A:Prop} (s:A:=by rw [hb] at h;cases h):A:=s
theorem zbb {A:Prop} (s:A:=by refine ai func131 ntmps131 ?_;refine V [] hL ?_;refine V [] hA ?_;exact al):A:=s
theorem zbc {A B:Prop} (h:B) (s:PLift B->A:=by intro hQ;refine D ?_;refine aM (ax 0 4 (.a 4 (.q 5 (.q 6 (.a 7 .nil))))) ?_;refine aj ?_;refine ou [0] g3 ?_;simp only [dN];refine zaE ?_;exact hQ.1):A:=s ⟨h⟩
theorem zbd {A B:Prop} (h:B) (s:PLift B->A:=by intro hQ;unfold qO da;simp only [cons_append,nil_append];refine D ?_;exact hQ.1):A:=s ⟨h⟩
theorem zbe {A B:Prop} (h:B) (s:PLift B->A:=by intro hQ;refine aM (ax 0 21 (.a 21 (ax 22 13 (.a 35 (.q 36 (.q 37 .nil)))))) ?_;exact hQ.1):A:=s ⟨h⟩
theorem zbf {A B:Prop} (h:B) (s:PLift B->A:=by intro hQ;refine zac ?_;refine V [0] h3 ?_;refine V [0] h4 ?_;exact hQ.1):A:=s ⟨h⟩
theorem zbg {A:Prop} (s:A:=by exact ⟨fun t r h=>(by cases h),fun _ h=>(by cases h)⟩):A:=s
theorem zbh {A:Prop} (s:A:=by obtain ⟨g,rfl,ox,iO⟩:=sc hg;rw [iS,iN,ah hp.code,ab vO,ab rG,ab sV,ab nV,I g iO];simp only;rw [ab nU]):A:=s
theorem zbi {A:Prop} (s:A:=by simp only [Value.ownBlock,Option.some.injEq] at bG;exact .inr (by omega)):A:=s
theorem zbj {A:Prop} (s:A:=by rw [ah rfl];have G:=yV c1 i1;have b2:=oP code d c1;generalize jy code d c1=a at *;obtain ⟨s,c2⟩:=a;simp only at G b2 |-;refine ai func247 ntmps247 ?_;refine V [0] I ?_;refine V [0] G ?_;exact al):A:=s
theorem zbk {A:Prop} (s:A:=by rw [dS,c7] at bj;rw [lA bj];exact ay):A:=s
theorem zbl {A:Prop} (s:A:=by obtain ⟨q,I,G⟩:=hb i b hi;obtain ⟨r,h3,h4⟩:=hb j b hj;have:=h.dis q r b G h4;subst this;obtain ⟨a1,a2⟩:=bB I;obtain ⟨b1,b2⟩:=bB h3;exact (List.getElem_inj hn).1 (a2.trans b2.symm)):A:=s
theorem zbm {A:Prop} (s:A:=by exact ⟨rfl,rfl,_,_,Wk.aH ao,rfl,rfl⟩):A:=s
theorem zbn {A:Prop} (s:A:=by rw [show (st.fns.map tR).length+[tR (s,acc)].length=(st.fns++[(s,acc)]).length by simp,<-Ac tR st.fns (s,acc)];refine bm ?_;refine c8 ?_;exact ⟨rfl,{ h with aT:=a3,cT:=c3,aF:=a4,cF:=c4 },rfl⟩):A:=s
theorem zbo {A B:Prop} (h:B) (s:PLift B->A:=by intro hQ;unfold iz so tO eA;rw [ab (show ¬ (T.mk n l).n.s=_ from n1),ab (show ¬ (T.mk n l).n.s=_ from n2),ab (show ¬ (T.mk n l).n.s=_ from n3)];show (match p.fns.findIdx? (fun f:Go.Sp.Fn=>f.name==n.s) with | none=>_ | some i=>_)=_;rw [hx];exact hQ.1):A:=s ⟨h⟩
theorem zbp {A:Prop} (s:A:=by refine aM (ax 0 33 (.a 33 (.q 34 (.q 35 .nil)))) ?_;refine aj ?_;exact bc ⟨_,_,Wk.aH ao,rfl,rfl⟩):A:=s
theorem zbq {A:Prop} (s:A:=by exact ⟨_,_,Wk.aH ao,rfl,rfl,fun j x y h=>by omega⟩):A:=s
theorem zbr {A:Prop} (s:A:=by exact .inr ⟨x,rfl,G.tr (y:=.error x) k3⟩):A:=s
theorem zbs {A:Prop} (s:A:=by refine ⟨fun hb=>(by simp at hb),fun _=>?_⟩;obtain ⟨pos,k1⟩:=hi.2 hfa;refine ⟨pos,vN fun f=>?_⟩;rw [rs,ab av];simp only;rw [ab (by rw [hv];decide),ah (.inl hv),tail_cons,k1]):A:=s
theorem zbt {A B:Prop} (h:B) (s:PLift B->A:=by intro hQ;refine D ?_;refine aM (ax 0 6 (.q 7 (.q 10 (.a 6 (.q 8 (.q 9 (.a 11 (.a 12 (.q 13 .nil))))))))) ?_;refine aj ?_;refine bZ [] lB ?_;refine bZ [0] (dw p 0 hp aD) ?_;refine bZ [] (lh (levels.getD k []) (p.sign 0) (F3 k hk)) ?_;exact hQ.1):A:=s ⟨h⟩
theorem zbu {A:Prop} (s:A:=by refine ⟨ts++us,by simp [I,h3],?_⟩;rw [eF] at h4 |-;rw [aL] at h4 |-;rw [<-iJ];exact G.app h4):A:=s
theorem zbv {A:Prop} (s:A:=by refine V [0] (c9 p2 [59] eY aD) ?_;refine zam ?_;refine V [] (jD 12 at_ [] [e] _ rE) ?_;exact gi):A:=s
theorem zbw {A:Prop} (s:A:=by have hz:=Gq (bo G);have:=hl.len;have:=G5 p i f t X (fun n h=>by have:=(d2 n h).2;omega) X X X I (by have:=(c2 f (bo I)).2.1;omega) X (by rw [hb];exact h7) X;rw [hb] at this;exact this):A:=s
theorem zbx {A B:Prop} (h:B) (s:PLift B->A:=by intro hQ;rw [rd.eq_def];simp only;rw [ab av,ab av,ab av,wg G hl];simp only;exact hQ.1):A:=s ⟨h⟩
theorem zby {A B:Prop} (h:B) (s:PLift B->A:=by intro hQ;refine eS ?_;refine D ?_;exact hQ.1):A:=s ⟨h⟩
theorem zbz {A:Prop} (s:A:=by refine V [0] hex ?_;refine zam ?_;refine V [0] qY ?_;refine zam ?_;refine V [] kT ?_;exact al):A:=s
theorem zbA {A:Prop} (s:A:=by obtain ⟨j,hj⟩:=List.mem_iff_getElem?.1 Sb;refine ⟨(hr j r hj).1,fun g hg=>?_⟩;obtain ⟨q,hq⟩:=List.mem_iff_getElem?.1 hg;exact (hI.fz _ _ _ ((hr j r hj).2 q g hq)).1):A:=s
theorem zbB {A:Prop} (s:A:=by exact .inr rfl):A:=s
theorem zbC {A:Prop} (s:A:=by refine ai func308 ntmps308 ?_;refine V [0] zQ ?_;refine aM (ax 0 17 .nil) ?_;refine bm ?_;refine V [0] (lC p1 nA) ?_;refine V [0] (lJ p1 7 p1.place) ?_;refine uU ?_;exact zaZ):A:=s
theorem zbD {A B:Prop} (h:B) (s:PLift B->A:=by intro hQ;refine aM (ax 0 7 (.a 7 (.q 8 .nil))) ?_;refine aj ?_;exact hQ.1):A:=s ⟨h⟩
theorem zbE {A:Prop} (s:A:=by obtain ⟨g,rfl,hg⟩:=up hg;rw [mS,eX];rw [ab Nj,ab JK,ab Ng,ab nV,I];simp only;rw [ab nU]):A:=s
theorem zbF {A B:Prop} (h:B) (s:PLift B->A:=by intro hQ;rw [rs,ab av];simp only;rw [ab (cS _ ar),ab (fun h=>h.elim (cS _ ar) (cS _ ar)),ab (cS _ ar)];simp only [simple];exact hQ.1):A:=s ⟨h⟩
theorem zbG {A B:Prop} (h:B) (s:PLift B->A:=by intro hQ;refine eE ?_;refine D ?_;exact hQ.1):A:=s ⟨h⟩
theorem zbH {A:Prop} (s:A:=by exact this.trans (dq (this.ok hp) _)):A:=s
theorem zbI {A:Prop} (s:A:=by rw [S.tree,gZ,et,et,et,gZ];exact ⟨fun h=>absurd h (by simp),fun h=>absurd h (by simp),E.wf c,⟨fun h=>absurd h (by simp),fun h=>absurd h (by simp),S.Fs b⟩,trivial⟩):A:=s
theorem zbJ {A B:Prop} (h:B) (s:PLift B->A:=by intro hQ;refine ct ?_;simp only [nil_append,length_nil,dJ];refine D ?_;exact hQ.1):A:=s ⟨h⟩
theorem zbK {A:Prop} (s:A:=by refine zaL ?_;refine c8 ?_;exact ⟨rfl,oK,oN,by simp [br]⟩):A:=s
theorem zbL {A:Prop} (s:A:=by obtain ⟨I,_⟩:=fE ht;simp only [T.n,I,qv];rfl):A:=s
theorem zbN {A B:Prop} (h:B) (s:PLift B->A:=by intro hQ;refine V [0] hex ?_;refine lL ?_;refine D ?_;refine zam ?_;refine V [0] qY ?_;refine V [0] fu ?_;exact hQ.1):A:=s ⟨h⟩
theorem zbO {A:Prop} (s:A:=by obtain ⟨f0,h0⟩:=h;obtain ⟨ef,I⟩:=G;refine ⟨f0+ef+1,fun f hf=>?_⟩;obtain ⟨f,rfl⟩:∃ g,f=g+1:=⟨f - 1,by omega⟩;exact hs f (h0 f av) (I f av)):A:=s
theorem zbP {A:Prop} (s:A:=by refine D ?_;refine za4 ?_;intro a2 c2;refine zaq ?_;exact ⟨rfl,rfl,_,_,(Wk.cut (n:=2) (aS _) rfl).trans (Wk.aH ao),a2,c2,_,_,rfl,rfl,by simp [mR],cl.symm⟩):A:=s
theorem zbQ {A B:Prop} (h:B) (s:PLift B->A:=by intro hQ;refine aM (ax 0 3 (.a 3 (.a 4 (.a 5 (.q 6 (.a 7 .nil)))))) ?_;refine aj ?_;exact hQ.1):A:=s ⟨h⟩
theorem zbR {A:Prop} (s:A:=by refine V [0] he ?_;refine zby ?_;exact ⟨(g,acc++[a],p2),⟨_,_,Wk.aH ao,_,_,rfl,rfl,by simp [hn],by rw [zd,bD],by show n+1+g<=f+1;omega,eY,h⟩,by simp⟩):A:=s
theorem zbS {A B:Prop} (h:B) (s:PLift B->A:=by intro hQ;rw [iS,iN,ah hp.code,ab vO,ah rG,I g iO];simp only;rw [h4 g ox];simp only;exact hQ.1):A:=s ⟨h⟩
theorem zbT {A:Prop} (s:A:=by rw [S.tree,zT,kc,kc];exact ⟨fun _=>rfl,E.z a,trivial⟩):A:=s
theorem zbU {A:Prop} (s:A:=by refine aj ?_;exact ay):A:=s
theorem zbV {A:Prop} (s:A:=by refine zby ?_;exact ⟨rfl,rfl,_,_,Wk.aH ao,_,_,_,rfl,rfl,by simp [fG],cl.symm⟩):A:=s
theorem zbW {A:Prop} (s:A:=by refine D ?_;have hc:=gO (.mk ⟨5,a,0,s,ks⟩ l) 1 hl;refine V [] hc ?_;exact al):A:=s
theorem zbX {A B:Prop} (h:B) (s:PLift B->A:=by intro hQ;refine D ?_;refine V [] he ?_;exact hQ.1):A:=s ⟨h⟩
theorem zbY {A:Prop} (s:A:=by exact this.trans (bL (this.ok dM) ar)):A:=s
theorem zbZ {A:Prop} (s:A:=by simp only [S.ok,aK] at h;have:=hx c h.1;have:=S.lens x hx b h.2 [123,32];rw [S.bK,S.tree,wt];simp only [gB,wt,aL,length_cons,length_nil] at *;omega):A:=s
theorem zb0 {A:Prop} (s:A:=by rw [ab (by simpa using hv)];refine D ?_;refine c8 ?_;exact ⟨rfl,ad,cp,rfl⟩):A:=s
theorem zb1 {A:Prop} (s:A:=by rw [mV] at hs;refine D ?_;refine ln [] hs ?_;refine D ?_;exact ⟨rfl,rfl,_,_,(Wk.cut (n:=0) (aI _) rfl).trans (Wk.aH ao),rfl,rfl,px oz qe gn mV⟩):A:=s
theorem zb2 {A B:Prop} (h:B) (s:PLift B->A:=by intro hQ;refine D ?_;refine V [0] hi ?_;exact hQ.1):A:=s ⟨h⟩
theorem zb3 {A:Prop} (s:A:=by simp only [S.ok,aK] at h;have G:=E.iV c h.1;have h3:=nP c;have h4:=S.yy b h.2;rw [S.tree,eo,dd,dd,dd,G,h4];simp [cQ,own,T.n,T.kids,bP];exact h3):A:=s
theorem zb4 {A:Prop} (s:A:=by obtain ⟨K',b9,bE,yL⟩:=h B K β w l hm hI hF;exact k B K' b9 w l hm bE yL):A:=s
theorem zb5 {A:Prop} (s:A:=by exact hn.tr (y:=.error x) h4):A:=s
theorem zb6 {A:Prop} (s:A:=by rw [List.contains_cons,List.contains_nil,Bool.or_false];exact Bool.beq_comm):A:=s
theorem zb7 {A:Prop} (s:A:=by refine aM (ax 0 3 (.q 5 (.a 3 (.a 4 (.a 6 (.q 7 .nil)))))) ?_;refine aj ?_;refine aC [] hC ?_;refine aC [] hT ?_;refine aC [] hH ?_;exact ay):A:=s
theorem zb8 {A:Prop} (s:A:=by refine .sl g 0 _ k rows (fun j r hr=>⟨(o4 r (bo hr)).1,fun q g' nw=>?_⟩) ui;rw [dJ];exact CY _ g o1 (by rw [e5];rfl) _ g' (xh o4 hr nw)):A:=s
theorem zb9 {A:Prop} (s:A:=by refine ai func184 ntmps184 ?_;refine V [] hS ?_;refine V [] hM ?_;exact al):A:=s
theorem zca {A:Prop} (s:A:=by rw [hg] at eO;refine ai func181 ntmps181 ?_;refine V [] qc ?_;refine V [] lT ?_;refine V [] qy ?_;refine V [] eO ?_;refine pC ?_;exact zah):A:=s
theorem zcb {A:Prop} (s:A:=by simp only;omega):A:=s
theorem zcc {A:Prop} (s:A:=by refine V [0] kh ?_;exact al):A:=s
theorem zcd {A B:Prop} (h:B) (s:PLift B->A:=by intro hQ;refine GL.wk (Wk.freeze (i:=1) rfl rfl rfl (aS _)) ?_;exact hQ.1):A:=s ⟨h⟩
theorem zce {A B:Prop} (h:B) (s:PLift B->A:=by intro hQ;refine D ?_;refine V [] hC ?_;exact hQ.1):A:=s ⟨h⟩
theorem zcf {A:Prop} (s:A:=by exact ⟨1,⟨_,_,Wk.aH ao,rfl,rfl,by omega,u3 1 rfl ht⟩,by omega⟩):A:=s
theorem zcg {A B:Prop} (h:B) (s:PLift B->A:=by intro hQ;refine aj ?_;refine zat ?_;exact hQ.1):A:=s ⟨h⟩
theorem zch {A B:Prop} (h:B) (s:PLift B->A:=by intro hQ;refine GL.q (YG.Is rfl rfl lI) ?_;refine zaN ?_;refine V [] hC ?_;exact hQ.1):A:=s ⟨h⟩
theorem zci {A:Prop} (s:A:=by simp only [nil_append];refine D ?_;refine V [] hH ?_;refine gL ?_;exact la (n:=1) rfl cB rfl (c6 rfl) rfl rfl ⟨none,0,rfl,rfl⟩):A:=s
theorem zcj {A B:Prop} (h:B) (s:PLift B->A:=by intro hQ;rw [show (n.kind==4&&n.s==eA)=false by simp only [Bool.and_eq_false_iff,beq_eq_false_iff_ne,ne_eq];by_cases h:n.kind=4;(· exact .inr fun e=>hz ⟨h,e⟩);exact .inl h];exact hQ.1):A:=s ⟨h⟩
theorem zck {A:Prop} (s:A:=by unfold qO da;simp only;rw [<-e1,e2];rfl):A:=s
theorem zcl {A:Prop} (s:A:=by rw [S.tk] at ht;obtain ⟨t,r,rfl,I,_⟩:=map_cons ht;obtain ⟨I,_⟩:=tN I;exact ⟨t,r,rfl,fun rest=>⟨lk I ar,lk I ar⟩⟩):A:=s
theorem zcm {A:Prop} (s:A:=by simpa using this):A:=s
theorem zcn {A:Prop} (s:A:=by refine D ?_;refine zby ?_;exact ⟨rfl,rfl,_,_,(Wk.cut (n:=3) (c6 rfl) rfl).trans (Wk.aH ao),_,_,rfl,rfl,by simp [mR],cl.symm⟩):A:=s
theorem zco {A:Prop} (s:A:=by refine bm ?_;exact ⟨rfl,rfl,_,_,Wk.aH ao,rfl,rfl,px oz qe gn mV⟩):A:=s
theorem zcp {A:Prop} (s:A:=by refine ai func18 ntmps18 ?_;refine zam ?_;refine V [] hG ?_;exact al):A:=s
theorem zcq {A:Prop} (s:A:=by obtain ⟨f0,h0⟩:=h;refine ⟨f0+1,fun f hf=>?_⟩;obtain ⟨f,rfl⟩:∃ g,f=g+1:=⟨f - 1,by omega⟩;exact hs f (h0 f av)):A:=s
theorem zcr {A:Prop} (s:A:=by obtain ⟨h0,xs,I,G,h3,h4,h5⟩:=h;refine ⟨h0,xs,I,G,⟨h3.1,fun i v g h6 h7=>(h3.2 i v g h6 h7).pc ?_⟩,h4,h5⟩;exact zaG):A:=s
theorem zcs {A:Prop} (s:A:=by simp only;obtain ⟨g,rfl⟩:∃ g',g=g'+1:=⟨g - 1,by omega⟩;rw [td,ab (by rw [oo (cE.err k2)];decide),jE (cE.err k2) ar]):A:=s
theorem zct {A:Prop} (s:A:=by exact ⟨by simp;omega,by simp;omega,by simp;omega,by simp;omega⟩):A:=s
theorem zcu {A:Prop} (s:A:=by rw [h];rcases hs with rfl | rfl | rfl | rfl | rfl | rfl <;> decide):A:=s
theorem zcv {A:Prop} (s:A:=by refine D ?_;refine V [] hc ?_;exact ⟨rfl,rfl,_,_,(Wk.cut (n:=0) (c6 rfl) rfl).trans (Wk.aH ao),_,rfl,rfl,by rw [oW,hj]⟩):A:=s
theorem zcw {A:Prop} (s:A:=by simp only [S.ok,aK] at h;have G:=E.iV a h.2;have h3:=nP a;rw [S.tree,eo,dd,dd,G];simp [cQ,own,T.n,T.kids,h.1,bP];exact h3):A:=s
theorem zcy {A:Prop} (s:A:=by obtain ⟨xs,I,G,h3,h4,h5⟩:=h;refine ⟨xs,I,G,⟨h3.1,fun i v g h6 h7=>(h3.2 i v g h6 h7).pc ?_⟩,h4,h5⟩;exact zaG):A:=s
theorem zcz {A B:Prop} (h:B) (s:PLift B->A:=by intro hQ;refine D ?_;refine V [0] (dw p 0 hp aD) ?_;exact hQ.1):A:=s ⟨h⟩
theorem zcA {A:Prop} (s:A:=by rw [hb] at h;rw [hit hb];refine D ?_;refine ot [] h ?_;exact ay):A:=s
theorem zcB {A:Prop} (s:A:=by rw [mc,aL];have:=ja (l.take k);omega):A:=s
theorem zcC {A B:Prop} (h:B) (s:PLift B->A:=by intro hQ;refine bc ?_;refine D ?_;exact hQ.1):A:=s ⟨h⟩
theorem zcD {A:Prop} (s:A:=by rw [nT] at gn;rw [qQ hl gn];exact ay):A:=s
theorem zcE {A:Prop} (s:A:=by obtain ⟨g,rfl,hg⟩:=pj hg;rw [iE,iN,ah hp.code,ab xJ,ab dD,ab bG,ah k2.1.code,ab yM,ah rG,k3 g av];simp only [ht]):A:=s
theorem zcF {A:Prop} (s:A:=by have:=gX t;omega):A:=s
theorem zcG {A:Prop} (s:A:=by rw [List.map_cons,sum_cons,ih (fun r hr=>hk r (dK _ hr)),(hk r (mem_cons_self)).1,length_cons,Nat.succ_mul];omega):A:=s
theorem zcH {A:Prop} (s:A:=by refine zai ?_;intro oK oN;refine zaq ?_;exact ⟨rfl,rfl,_,_,Wk.aH ao,oK,oN,_,_,_,rfl,rfl,by simp [mR],cl.symm⟩):A:=s
theorem zcI {A:Prop} (s:A:=by refine ai func108 ntmps108 ?_;refine zbD ?_;refine aC [] hA ?_;refine D ?_;refine c8 ?_;exact ⟨rfl,eb,ec,rfl⟩):A:=s
theorem zcJ {A:Prop} (s:A:=by simp only [S.ok] at h;have G:=E.iV a h;have h3:=nP a;rw [S.tree,eo,dd,dd,G];simp [cQ,own,T.n,T.kids,bP];exact h3):A:=s
theorem zcK {A:Prop} (s:A:=by simp only [S.ok,aK] at h;have hb:=yx b h.2 d;rw [S.tree,nh,List.map_cons,lZ c h.1,tB,tB,tB,hb,S.bK];simp [AP,ik]):A:=s
theorem zcL {A:Prop} (s:A:=by refine ⟨q',h4.tr h5,fun aeK=>?_⟩;obtain ⟨u,r,rfl,_,_⟩:=map_cons I;rw [length_cons,<-iJ,uC hp h3,h6];simp):A:=s
theorem zcM {A B:Prop} (h:B) (s:PLift B->A:=by intro hQ;refine V [0] G ?_;refine zaP ?_;refine zbN ?_;refine zby ?_;exact hQ.1):A:=s ⟨h⟩
theorem zcN {A:Prop} (s:A:=by exact this.trans (I _ _ _ _ (this.ok hp) h)):A:=s
theorem zcO {A:Prop} (s:A:=by refine ⟨K1,I,G,?_⟩;show bC K1 _ [ev l x,ev l y] _;rw [hF.lq hx,hF.lq hy];exact .cons h3 (.cons (.v _) .nil)):A:=s
theorem zcP {A:Prop} (s:A:=by refine zas ?_;exact ⟨rfl,rfl,_,_,Wk.aH ao,iL,iM,rfl,rfl⟩):A:=s
theorem zcQ {A:Prop} (s:A:=by obtain ⟨g,rfl,hg⟩:=pj hg;rw [iE,iN,ah hp.code,ab xJ,ab dD,ab bG,ah k2.1.code,ah yM,k3 g av];simp only [ht]):A:=s
theorem zcR {A:Prop} (s:A:=by subst he;refine D ?_;refine aM (ax 0 8 (.a 8 (.q 9 (.q 10 .nil)))) ?_;refine bm ?_;refine V [0] M0 ?_;exact jo):A:=s
theorem zcT {A:Prop} (s:A:=by refine zce ?_;refine GL.borrow hL (fun B K β w l hI hF=>fx (A:=[_]) (C:=[_]) hI hF rfl rfl) ?_;refine ct ?_;exact gh):A:=s
theorem zcU {A:Prop} (s:A:=by refine GL.wk (Wk.Au (i:=2) (o:=5) rfl rfl rfl rfl hn) ?_;refine cm ?_;refine V [0] (c9 p [125] hp aD) ?_;exact gi):A:=s
theorem zcV {A B:Prop} (h:B) (s:PLift B->A:=by intro hQ;refine zam ?_;refine V [0] Xj ?_;refine aM (ax 0 6 (.a 6 (.a 7 (.a 8 (.q 9 (.q 10 (.a 11 .nil))))))) ?_;refine aj ?_;refine aC [0] fu ?_;refine zat ?_;exact hQ.1):A:=s ⟨h⟩
theorem zcW {A:Prop} (s:A:=by exact h B K _ w' _ hm bE ((hF.mono (df.refl K) (kq (by rw [hI.out _ (aI _)];trivial))).put d (.loc _ 0 b bI))):A:=s
theorem zcX {A:Prop} (s:A:=by obtain ⟨s2,c4⟩:=a;simp only at e1 e2 e3 g2 b2;refine D ?_;refine V [0] h3 ?_;refine V [0] g2 ?_;exact zaj):A:=s
theorem zcY {A:Prop} (s:A:=by refine D ?_;exact ⟨rfl,rfl,_,_,(Wk.cut (n:=1) (aS _) rfl).trans (Wk.aH ao),rfl,rfl,by rw [cl,bj,hb];rfl⟩):A:=s
theorem zcZ {A:Prop} (s:A:=by exact ⟨_,_,rfl,rfl⟩):A:=s
theorem zc0 {A:Prop} (s:A:=by obtain ⟨g,rfl,hg⟩:=up hg;rw [mE];simp only [eX,hp.code,wY,if_true,ab Em,ab RM,ab hu,ah hb];rw [I g av]):A:=s
theorem zc1 {A B:Prop} (h:B) (s:PLift B->A:=by intro hQ;refine aM (ax 0 7 (.a 7 .nil)) ?_;refine aj ?_;exact hQ.1):A:=s ⟨h⟩
theorem zc2 {A:Prop} (s:A:=by refine ai func181 ntmps181 ?_;refine V [] qc ?_;refine V [] lT ?_;refine V [] Xc ?_;refine pC ?_;exact zah):A:=s
theorem zc3 {A:Prop} (s:A:=by refine za4 ?_;intro a2 c2;refine zaq ?_;exact ⟨rfl,rfl,_,_,Wk.aH ao,a2,c2,_,_,rfl,rfl,by simp [fG],ug⟩):A:=s
theorem zc4 {A:Prop} (s:A:=by unfold jc at h;rw [sw] at h;obtain ⟨l,hl,hc⟩:=h;exact List.mem_flatten.2 ⟨l,hl,by simpa using hc⟩):A:=s
theorem zc5 {A:Prop} (s:A:=by rw [jP,tV];have:=hx.2;have:=yP.2 hc;omega):A:=s
theorem zc6 {A:Prop} (s:A:=by have fM:=dF.trans (bL (dF.ok hd) (s:=[61]) ar);obtain ⟨t,q,e⟩:=y5 (fM.ok hd) (d+1);rw [e];exact zaJ):A:=s
theorem zc7 {A B:Prop} (h:B) (s:PLift B->A:=by intro hQ;refine aM (ax 0 10 (.a 10 (.a 11 .nil))) ?_;refine bm ?_;exact hQ.1):A:=s ⟨h⟩
theorem zc8 {A:Prop} (s:A:=by rw [ah (.inr (by simpa using hz))] at he;subst he;refine za8 ?_;refine D ?_;refine V [0] M0 ?_;exact jo):A:=s
theorem zc9 {A B:Prop} (h:B) (s:PLift B->A:=by intro hQ;refine aM (ax 0 7 (.a 7 (.a 8 (.q 9 (.q 10 (.a 11 .nil)))))) ?_;refine zcg ?_;exact hQ.1):A:=s ⟨h⟩
theorem zda {A:Prop} (s:A:=by refine V [0] I ?_;refine bA [0] (C9 code hl c1 i1) ?_;rintro _ _ ⟨c2,p,i2,hw,hn,rfl,rfl⟩;exact za7):A:=s
theorem zdb {A B:Prop} (h:B) (s:PLift B->A:=by intro hQ;rw [rs,ab av];simp only;rw [ab (cS _ (by simp)),ab (fun h=>h.elim (cS _ (by simp)) (cS _ (by simp))),ab (cS _ (by simp))];simp only [simple];exact hQ.1):A:=s ⟨h⟩
theorem zdc {A:Prop} (s:A:=by rw [hb] at h cl;refine D ?_;refine ot [] h ?_;exact zaH):A:=s
theorem zdd {A:Prop} (s:A:=by obtain ⟨g,rfl,hg⟩:=up hg;rw [mE];simp only [eX,hp.code,wY,if_true,ab Em,ab RM,ah hu];rw [I g av]):A:=s
theorem zde {A:Prop} (s:A:=by exact (h.ob i z hi).ext (S:=iI) (Ext.refl w) (fun _ _ h=>h) (df.refl K) hold (bU X) (fun _ _ _ h=>h)):A:=s
theorem zdf {A:Prop} (s:A:=by rw [ab (by rintro (h | h);(· cases h);(· simp at hz;omega))] at he;subst he;refine za8 ?_;exact jx):A:=s
theorem zdg {A:Prop} (s:A:=by refine zai ?_;intro a2 d2;refine zaq ?_;rw [hlen,hia];exact ⟨rfl,rfl,_,_,Wk.aH ao,a2,d2,rfl,rfl⟩):A:=s
theorem zdh {A B:Prop} (h:B) (s:PLift B->A:=by intro hQ;refine D ?_;refine bY ?_;exact hQ.1):A:=s ⟨h⟩
theorem zdi {A B:Prop} (h:B) (s:PLift B->A:=by intro hQ;refine cy ?_;refine aj ?_;exact hQ.1):A:=s ⟨h⟩
theorem zdj {A B:Prop} (h:B) (s:PLift B->A:=by intro hQ;refine D ?_;refine aM (ax 0 9 .nil) ?_;exact hQ.1):A:=s ⟨h⟩
theorem zdk {A:Prop} (s:A:=by refine zaP ?_;refine zam ?_;refine V [] kT ?_;exact al):A:=s
theorem zdl {A:Prop} (s:A:=by exact ⟨rfl,rfl,_,_,Wk.aH ao,a,c,n,S,rfl,rfl,fG,hS⟩):A:=s
theorem zdm {A:Prop} (s:A:=by exact ⟨K,β,fr,Γ,hI,hF,hq⟩):A:=s
theorem zdn {A:Prop} (s:A:=by have:=CG p i x ({ kind:=x.kind,at_:=x.at_,n:=x.n,s:=sg,kids:=x.kids }:Nd) hx;simp only at *;omega):A:=s
theorem zdo {A B:Prop} (h:B) (s:PLift B->A:=by intro hQ;refine aM (ax 0 24 .nil) ?_;refine bm ?_;refine V [0] (lC p hp) ?_;refine V [0] (lJ p 7 p.place) ?_;refine bY ?_;rw [RS.name,ah hc,ht];exact hQ.1):A:=s ⟨h⟩
theorem zdp {A:Prop} (s:A:=by obtain ⟨g,rfl,hg⟩:=pj hg;rw [iE,iN,ah hp.code,ab xJ,ab (by rw [ht];exact Em),ah bG,I g av]):A:=s
theorem zdq {A:Prop} (s:A:=by rename_i x hx;exact ⟨fun t r h=>(by cases h),fun h h0=>G av (hx.trans (by cases h0;rfl))⟩):A:=s
theorem zdr {A:Prop} (s:A:=by exact ⟨rfl,rfl,_,_,(Wk.cut (n:=0) (aI _) rfl).trans (Wk.aH ao),rfl,rfl,by simpa using hf⟩):A:=s
theorem zds {A:Prop} (s:A:=by rw [h3] at hL;rw [ab (by rw [h3];simp)] at wX;subst wX;refine D ?_;refine V [] hL ?_;exact jo):A:=s
theorem zdt {A:Prop} (s:A:=by obtain ⟨l',r'⟩:=y;rw [he] at h4;obtain ⟨rfl,h4⟩:=h4;rw [cH];exact ⟨rfl,G.tr h4⟩):A:=s
theorem zdu {A:Prop} (s:A:=by exact .inl ⟨rfl,rfl,rfl,by simp,fun k hk _=>Below.heap_alloc _ _ _ (by simpa using hk)⟩):A:=s
theorem zdv {A B:Prop} (h:B) (s:PLift B->A:=by intro hQ;refine GL.q (YG.aaS rfl rfl) ?_;refine ct ?_;refine GL.q (YG.ZO rfl rfl) ?_;refine zaN ?_;refine aM (ax 0 13 .nil) ?_;refine aj ?_;exact hQ.1):A:=s ⟨h⟩
theorem zdw {A:Prop} (s:A:=by rw [all_eq_false];exact ⟨x,bo hx,by simp [hb]⟩):A:=s
theorem zdx {A:Prop} (s:A:=by obtain ⟨g,rfl,hg⟩:=up hg;rw [mS] at this |-;rw [uy hf.err] at this;rw [hdf];exact this):A:=s
theorem zdy {A:Prop} (s:A:=by rw [S.bK,S.tree,wt];exact zaT):A:=s
theorem zdz {A:Prop} (s:A:=by exact xR f _ _ _ _ (fun k d o e=>by cases e) h h3):A:=s
theorem zdA {A:Prop} (s:A:=by refine ji ?_;refine zcd ?_;refine GN (by simp only [pH,oR];rfl) ?_;refine D ?_;exact za0):A:=s
theorem zdB {A:Prop} (s:A:=by refine zby ?_;exact ⟨rfl,rfl,_,_,Wk.aH ao,_,_,rfl,rfl,by simp [hm],cl.symm,by omega⟩):A:=s
theorem zdC {A:Prop} (s:A:=by rw [S.tree,zT,kc,kc,kc,zT];exact ⟨fun _=>rfl,E.z c,⟨fun _=>rfl,S.zs b⟩,trivial⟩):A:=s
theorem zdD {A:Prop} (s:A:=by have hl:=qh hF h3;simp only [w7,gv,I,G,hl,hv,Bool.and_self];exact ⟨trivial,trivial⟩):A:=s
theorem zdE {A:Prop} (s:A:=by refine zbG ?_;refine gL ?_;exact la (n:=1) rfl cB rfl (c6 rfl) rfl rfl ⟨_,rfl,rfl⟩):A:=s
theorem zdF {A B:Prop} (h:B) (s:PLift B->A:=by intro hQ;refine D ?_;refine V [] hR ?_;exact hQ.1):A:=s ⟨h⟩
theorem zdG {A:Prop} (s:A:=by rw [this];exact ⟨fun hb=>(by cases hb),fun _=>⟨_,vN fun f=>by rw [rs,ah av]⟩⟩):A:=s
theorem zdH {A:Prop} (s:A:=by exact ⟨by simp;omega,by simp;omega,by simp;omega,fun x hx=>by have:=d x hx;omega⟩):A:=s
theorem zdI {A:Prop} (s:A:=by exact ⟨fun h=>absurd h (by simp),fun h=>absurd h (by simp),E.wf a,E.wf b,trivial⟩):A:=s
theorem zdJ {A B:Prop} (h:B) (s:PLift B->A:=by intro hQ;refine V [0] (c9 _ [61] dF aD) ?_;refine V [0] (BG (d+1) _ e p2 fM X he) ?_;refine V [0] (c9 p2 [59] eY aD) ?_;refine zam ?_;exact hQ.1):A:=s ⟨h⟩
theorem zdK {A:Prop} (s:A:=by rw [how];refine ai func251 ntmps251 ?_;exact al):A:=s
theorem zdL {A:Prop} (s:A:=by refine za2 ?_;refine aj ?_;refine bZ [] hG ?_;refine D ?_;refine V [0] WQ ?_;exact jo):A:=s
theorem zdM {A:Prop} (s:A:=by rw [G];simp only;rw [h3];exact zb5):A:=s
theorem zdN {A:Prop} (s:A:=by obtain ⟨g,rfl,ox,iO⟩:=sc hg;rw [iS,iN,ah hp.code,ab vO,ab rG,ab sV,ah nV,I g iO]):A:=s
theorem zdO {A B:Prop} (h:B) (s:PLift B->A:=by intro hQ;refine D ?_;refine gL ?_;exact hQ.1):A:=s ⟨h⟩
theorem zdP {A:Prop} (s:A:=by refine ai func234 ntmps234 ?_;refine zbD ?_;refine aC [] hF ?_;refine D ?_;exact zcc):A:=s
theorem zdQ {A B:Prop} (h:B) (s:PLift B->A:=by intro hQ;unfold cC;refine D ?_;refine aM (ax 0 6 (.a 6 .nil)) ?_;refine aj ?_;exact hQ.1):A:=s ⟨h⟩
theorem zdR {A:Prop} (s:A:=by refine c8 ?_;exact ⟨rfl,h,rfl⟩):A:=s
theorem zdS {A:Prop} (s:A:=by refine eE ?_;exact ⟨_,_,Wk.aH ao,q,p,_,_,_,_,ns,rfl,rfl,⟨Hg,Ha,Hf,Hn⟩,tq,AG⟩):A:=s
theorem zdT {A:Prop} (s:A:=by rw [ab (by simpa using hv)];refine D ?_;refine c8 ?_;exact ⟨rfl,ad,cp,eb,ec,rfl⟩):A:=s
theorem zdU {A:Prop} (s:A:=by simp only [stay,mem_filter] at hp |-;exact (hs p hp.1).imp (fun h=>⟨h,hp.2⟩) id):A:=s
theorem zdV {A:Prop} (s:A:=by refine aM (ax 0 6 (.a 6 (ax 7 3 .nil))) ?_;refine aj ?_;refine aC [] hj ?_;exact ay):A:=s
theorem zdW {A:Prop} (s:A:=by rw [y8,qW];refine CE ?_ t.n;simp only [if_true];exact y9 p t.kids _ (SS.sN _ ar _)):A:=s
theorem zdX {A B:Prop} (h:B) (s:PLift B->A:=by intro hQ;refine aM (.q 1 (.q 2 (.a 0 (.a 3 .nil)))) ?_;refine aj ?_;refine aC [] z8 ?_;refine aC [] Bi ?_;refine D ?_;refine lp ?_;exact hQ.1):A:=s ⟨h⟩
theorem zdY {A B:Prop} (h:B) (s:PLift B->A:=by intro hQ;refine lF dv ew ?_;refine bm ?_;exact hQ.1):A:=s ⟨h⟩
theorem zdZ {A:Prop} (s:A:=by refine D ?_;exact ⟨_,_,Wk.aH ao,_,l,rfl,by rw [kC];rfl,.inl ⟨rfl,rfl,rfl⟩⟩):A:=s
theorem zd0 {A:Prop} (s:A:=by exact this.trans (G _ _ _ _ _ (this.ok hp) h)):A:=s
theorem zd1 {A:Prop} (s:A:=by simp only [gt_iff_lt,decide_eq_true this];rfl):A:=s
theorem zd2 {A:Prop} (s:A:=by have:cs=[]:=ig h.1.symm;subst this;simp at ho):A:=s
theorem zd3 {A:Prop} (s:A:=by refine eE ?_;exact ay):A:=s
theorem zd4 {A:Prop} (s:A:=by simp only [List.map_cons,flatten_cons,ih];rfl):A:=s
theorem zd5 {A:Prop} (s:A:=by rw [mc,aL];have:=ja l;omega):A:=s
theorem zd6 {A:Prop} (s:A:=by refine V [0] eX ?_;refine V [] Lz ?_;exact al):A:=s
theorem zd7 {A:Prop} (s:A:=by rw [ab hd];exact ⟨fun c' h=>(by rw [hc] at h;cases h;simpa using hd),aI _,I⟩):A:=s
theorem zd8 {A:Prop} (s:A:=by refine D ?_;have hc:=gO (.mk ⟨9,a,0,s,ks⟩ l) 1 hl;refine V [] hc ?_;exact al):A:=s
theorem zd9 {A B:Prop} (h:B) (s:PLift B->A:=by intro hQ;simp only [nil_append];refine D ?_;exact hQ.1):A:=s ⟨h⟩
theorem zea {A:Prop} (s:A:=by rw [yQ] at bj;exact ⟨rfl,bj⟩):A:=s
theorem zeb {A:Prop} (s:A:=by rw [ab (fun e=>hc e.2),hz av,show ls.contains n.s=false by simpa using hc];rfl):A:=s
theorem zec {A:Prop} (s:A:=by refine eE ?_;exact ⟨_,_,Wk.aH ao,a,z,n,rows,acc,rfl,rfl,hn,bD,by omega,hB⟩):A:=s
theorem zed {A:Prop} (s:A:=by simp only [S.ok,aK] at h;rw [S.tree,nh,List.map_cons,lZ a h.2,S.bK];simp [AP]):A:=s
theorem zee {A:Prop} (s:A:=by obtain ⟨k1,k2⟩:=key es I;exact ⟨es++[a],k1,by rw [MN,G,k2,bf,bf,h4]⟩):A:=s
theorem zef {A B:Prop} (h:B) (s:PLift B->A:=by intro hQ;refine D ?_;refine V [] lT ?_;refine V [] eO ?_;exact hQ.1):A:=s ⟨h⟩
theorem zeg {A B:Prop} (h:B) (s:PLift B->A:=by intro hQ;refine D ?_;refine V [] RZ ?_;refine V [] qW ?_;exact hQ.1):A:=s ⟨h⟩
theorem zeh {A:Prop} (s:A:=by rw [hn] at h;cases h):A:=s
theorem zei {A:Prop} (s:A:=by obtain ⟨I,_,_⟩:=qo h;rw [I];simp only;rw [ab (by rw [hp c rfl];decide)]):A:=s
theorem zej {A:Prop} (s:A:=by simp only [yX,lY,aB] at *;omega):A:=s
theorem zek {A:Prop} (s:A:=by exact ⟨l,rfl,hq⟩):A:=s
theorem zem {A:Prop} (s:A:=by refine ai func131 ntmps131 ?_;refine V [] hL ?_;refine V [] hG ?_;exact al):A:=s
theorem zen {A:Prop} (s:A:=by generalize c.fail 23 n.at_=c1 at *;refine ai func234 ntmps234 ?_;exact zcc):A:=s
theorem zeo {A B:Prop} (h:B) (s:PLift B->A:=by intro hQ;rw [rs,ab av];simp only;rw [ab (lk I ar),ab (fun h=>h.elim (lk I ar) (lk I ar)),ab (lk I ar)];simp only [simple];exact hQ.1):A:=s ⟨h⟩
theorem zep {A:Prop} (s:A:=by refine D ?_;exact ⟨rfl,rfl,_,_,Wk.aH ao,rfl,rfl,by rw [cl,bj,hb];rfl⟩):A:=s
theorem zeq {A B:Prop} (h:B) (s:PLift B->A:=by intro hQ;refine D ?_;refine V [] hs ?_;refine V [] J2 ?_;refine V [] oW ?_;refine V [2] fu ?_;refine aM (ax 0 17 .nil) ?_;exact hQ.1):A:=s ⟨h⟩
theorem zer {A:Prop} (s:A:=by exact (dH hs ar).1):A:=s
theorem zes {A:Prop} (s:A:=by simp only [S.ok] at h;rw [S.tree,nh,List.map_cons,lZ a h,S.bK];simp [AP]):A:=s
theorem zet {A:Prop} (s:A:=by refine D ?_;exact ⟨rfl,rfl,_,_,Wk.aH ao,rfl,rfl,by rw [jL,hc,G];rfl⟩):A:=s
theorem zeu {A:Prop} (s:A:=by simp [results,hr,zU,asAddr,EA]):A:=s
theorem zev {A:Prop} (s:A:=by rw [ab (by rintro (h | h);(· cases h);(· simp at hz;omega))];exact zbb):A:=s
theorem zew {A:Prop} (s:A:=by exact ⟨_,_,Wk.aH ao,rfl,rfl,fun j hj=>absurd hj (Nat.not_lt_zero _)⟩):A:=s
theorem zey {A B:Prop} (h:B) (s:PLift B->A:=by intro hQ;rw [show (nD st.trees).length+[[qT t]].length=(st.trees++[t]).length by simp [qs],<-zd st.trees t];refine bm ?_;exact hQ.1):A:=s ⟨h⟩
theorem zez {A:Prop} (s:A:=by simp only [G,Bool.and_false,Bool.false_eq_true,if_false];split <;> omega):A:=s
theorem zeA {A:Prop} (s:A:=by simp only [length_cons,length_nil];omega):A:=s
theorem zeB {A:Prop} (s:A:=by rw [E.tree,gZ];exact ⟨fun h=>absurd h (by simp),fun _=>rfl,trivial⟩):A:=s
theorem zeC {A:Prop} (s:A:=by obtain ⟨r,mw,eR⟩:=List.mem_flatten.1 (bo hg);exact (h4 r mw).2 g eR):A:=s
theorem zeD {A:Prop} (s:A:=by obtain ⟨g,rfl,hg⟩:=up hg;rw [mS,eX];rw [ab Nj,ab JK,ab Ng,ah nV,I]):A:=s
theorem zeE {A:Prop} (s:A:=by exact ⟨by omega,by omega,by omega,fun x hx=>by have:=d x hx;omega⟩):A:=s
theorem zeF {A:Prop} (s:A:=by unfold xK at hz;simp only [aK,beq_iff_eq] at hz;rw [hk,dy] at hz;omega):A:=s
theorem zeG {A B:Prop} (h:B) (s:PLift B->A:=by intro hQ;refine V [0] hi ?_;refine V [0] dF ?_;exact hQ.1):A:=s ⟨h⟩
theorem zeH {A:Prop} (s:A:=by refine bY ?_;exact ⟨by show GV.v (.bool (decide _))=_;rw [DB],rfl⟩):A:=s
theorem zeI {A:Prop} (s:A:=by obtain ⟨a,b⟩:=ih l h;exact ⟨a,fun x hx=>by have:=b x hx;omega⟩):A:=s
theorem zeJ {A:Prop} (s:A:=by rw [G] at he;refine ai func124 ntmps124 ?_;refine V [] he ?_;exact al):A:=s
theorem zeK {A B:Prop} (h:B) (s:PLift B->A:=by intro hQ;refine D ?_;refine V [] RP ?_;refine GL.wk (Wk.jY (t:=59) rfl rfl rfl fG) ?_;refine zaq ?_;refine V [] hL ?_;exact hQ.1):A:=s ⟨h⟩
theorem zeL {A:Prop} (s:A:=by exact fQ.nodes x (bo hx)):A:=s
theorem zeM {A B:Prop} (h:B) (s:PLift B->A:=by intro hQ;refine D ?_;refine aM (.q 0 (.q 1 (.a 2 (ax 3 9 (.a 12 (ax 13 7 (.a 20 (ax 21 4 .nil)))))))) ?_;refine aj ?_;exact hQ.1):A:=s ⟨h⟩
theorem zeN {A:Prop} (s:A:=by exact ⟨fun t r h=>(by cases h;exact aI _),fun _ h=>(by cases h)⟩):A:=s
theorem zeO {A:Prop} (s:A:=by obtain ⟨g,rfl⟩:∃ g',g=g'+1:=⟨g - 1,by omega⟩;exact hk g av):A:=s
theorem zeP {A:Prop} (s:A:=by obtain ⟨pos,k1⟩:=hx.2 hb;exact ⟨pos,Ev.ixX hd I hl h3 nt k1⟩):A:=s
theorem zeQ {A:Prop} (s:A:=by cases t' with | zero=>rfl | succ t'=>exact ih (fun e=>h (by rw [e]))):A:=s
theorem zeR {A B:Prop} (h:B) (s:PLift B->A:=by intro hQ;refine GL.wk (Wk.jY (t:=57) rfl rfl rfl rfl) ?_;refine cm ?_;exact hQ.1):A:=s ⟨h⟩
theorem zeS {A:Prop} (s:A:=by exact h _ _ B K' _ w' _ hm vj ((hF.mono hK nW).put (some dt) (.v _))):A:=s
theorem zeU {A:Prop} (s:A:=by refine ow ?_;exact zaZ):A:=s
theorem zeV {A B:Prop} (h:B) (s:PLift B->A:=by intro hQ;refine V [0] ht ?_;exact hQ.1):A:=s ⟨h⟩
theorem zeW {A:Prop} (s:A:=by exact ⟨0,⟨_,_,Wk.aH ao,rfl,rfl,by omega,u3 0 rfl ht⟩,by omega⟩):A:=s
theorem zeX {A:Prop} (s:A:=by rename_i b p' he;have:=hn.trans (I _ _ _ _ (hn.ok hp) he);exact zcN):A:=s
theorem zeY {A:Prop} (s:A:=by rw [this];exact ⟨fun hb=>(by cases hb),fun _=>⟨_,Ev.WB av⟩⟩):A:=s
theorem zeZ {A:Prop} (s:A:=by have:=hx.2;have:=vk.2;have:=eM.2;omega):A:=s
theorem ze0 {A:Prop} (s:A:=by refine ai func245 ntmps245 ?_;exact al):A:=s
theorem ze1 {A:Prop} (s:A:=by exact ⟨_,_,Wk.aH ao,ad,cp,rfl,rfl⟩):A:=s
theorem ze2 {A:Prop} (s:A:=by refine ai func126 ntmps126 ?_;exact al):A:=s
theorem ze3 {A:Prop} (s:A:=by refine zaL ?_;refine c8 ?_;exact ⟨rfl,oK,oN,eb,ec,by simp [br]⟩):A:=s
theorem ze4 {A:Prop} (s:A:=by obtain ⟨t,I,G,h3⟩:=eL ar hc;exact ⟨t,I,G,h3.trans hc.symm⟩):A:=s
theorem ze5 {A:Prop} (s:A:=by obtain ⟨g,rfl,hg⟩:=pj hg;rw [iE,iN,ah hp.code,ah xJ,I g av,ht]):A:=s
theorem ze6 {A:Prop} (s:A:=by obtain ⟨g,rfl,ox,iO⟩:=sc hg;rw [iS,iN,ah hp.code,ah vO,I g iO]):A:=s
theorem ze7 {A:Prop} (s:A:=by refine D ?_;have hc:=w9 s;rw [h0] at hc;refine V [] hc ?_;exact al):A:=s
theorem ze8 {A:Prop} (s:A:=by refine zas ?_;exact ⟨rfl,rfl,_,_,Wk.aH ao,iL,iM,pY,pZ,rfl,rfl⟩):A:=s
theorem ze9 {A:Prop} (s:A:=by rw [mE,ab (by rw [eO];exact hb),ah (by rw [eO];exact hc),k1 g hg]):A:=s
theorem zfa {A:Prop} (s:A:=by rw [he] at h;exact .inr ⟨x,rfl,h⟩):A:=s
theorem zfb {A:Prop} (s:A:=by obtain ⟨g,rfl,hg⟩:=up hg;rw [mS,eX];rw [ah (by rw [eO,hv]),I]):A:=s
theorem zfc {A:Prop} (s:A:=by refine zbx ?_;rw [ab (by rw [hs];decide),ah hs,tail_cons,h0 f av]):A:=s
theorem zfd {A:Prop} (s:A:=by exact ⟨_,rfl⟩):A:=s
theorem zfe {A:Prop} (s:A:=by simp [E.tree,T.n] at h3):A:=s
theorem zff {A:Prop} (s:A:=by obtain ⟨j,b⟩:=gd;simp only at hv hc;simp only [gG,hv,hc];simp):A:=s
theorem zfg {A:Prop} (s:A:=by rw [ah (by simpa using h3)];exact zab):A:=s
theorem zfh {A:Prop} (s:A:=by rw [ab (by simpa using h3)];exact zab):A:=s
theorem zfi {A:Prop} (s:A:=by subst wX;refine D ?_;refine V [] hL ?_;refine V [] hA ?_;exact jo):A:=s
theorem zfj {A B:Prop} (h:B) (s:PLift B->A:=by intro hQ;refine V [] hS ?_;refine aM (ax 0 8 (.a 8 (.a 9 .nil))) ?_;exact hQ.1):A:=s ⟨h⟩
theorem zfk {A B:Prop} (h:B) (s:PLift B->A:=by intro hQ;refine zaI ?_;refine aj ?_;refine bZ [0] ht ?_;refine bZ [] xc ?_;refine bZ [0] ht ?_;refine bZ [] WY ?_;exact hQ.1):A:=s ⟨h⟩
theorem zfl {A:Prop} (s:A:=by exact ⟨aI _,h⟩):A:=s
theorem zfm {A:Prop} (s:A:=by rw [E.bK,E.full,E.tree,wt];exact zaT):A:=s
theorem zfn {A:Prop} (s:A:=by rw [jP,tV];have:=hx.2;omega):A:=s
theorem zfo {A:Prop} (s:A:=by rcases hk with hk | hk <;> rw [hk] at h <;> simp at h <;> omega):A:=s
theorem zfp {A:Prop} (s:A:=by refine zbG ?_;refine pC ?_;exact zah):A:=s
theorem zfq {A:Prop} (s:A:=by refine aC [] hB ?_;exact ni):A:=s
theorem zfr {A:Prop} (s:A:=by exact ⟨fun t r h=>(by cases h;simp),fun _ h=>(by cases h)⟩):A:=s
theorem zfs {A:Prop} (s:A:=by split at h <;> cases h):A:=s
theorem zft {A:Prop} (s:A:=by exact absurd h3 (by simp [one,T.n])):A:=s
theorem zfu {A B:Prop} (h:B) (s:PLift B->A:=by intro hQ;rw [mS,I];simp only;rw [h4 g hg];simp only;exact hQ.1):A:=s ⟨h⟩
theorem zfv {A:Prop} (s:A:=by simp only [fY,Bool.or_eq_false_iff,beq_eq_false_iff_ne];omega):A:=s
theorem zfw {A:Prop} (s:A:=by exact (EM (cE.err G)).2.1 g _ _ _ (by unfold KF at hg;omega)):A:=s
theorem zfx {A:Prop} (s:A:=by refine V [] hC ?_;exact al):A:=s
theorem zfy {A:Prop} (s:A:=by refine V [] hg ?_;exact al):A:=s
theorem zfz {A:Prop} (s:A:=by refine aj ?_;refine aC [] hca ?_;refine aC [] CV ?_;exact ay):A:=s
theorem zfA {A:Prop} (s:A:=by rw [h3.2.2] at h4;exact .inr (.inl ⟨r,x,G,h4,h3.tr h5⟩)):A:=s
theorem zfB {A:Prop} (s:A:=by exact ⟨-1,rfl,fun h=>by omega⟩):A:=s
theorem zfC {A:Prop} (s:A:=by have:=e1 c (by rw [he];exact hc);rw [uh] at this;cases this):A:=s
theorem zfD {A:Prop} (s:A:=by refine ⟨?_,rfl⟩;show GV.v (.bool true)=_;rw [ea.2 this]):A:=s
theorem zfE {A:Prop} (s:A:=by rw [vh oz qe (p:=fun x y=>x==y) mV];refine zdj ?_;exact zbU):A:=s
theorem zfF {A:Prop} (s:A:=by exact ⟨a,by push_cast;omega,c⟩):A:=s
theorem zfG {A B:Prop} (h:B) (s:PLift B->A:=by intro hQ;refine aM (ax 0 5 (.a 5 (ax 6 6 (.a 12 (.q 13 (.q 14 .nil)))))) ?_;refine aj ?_;refine aC [] hA ?_;exact hQ.1):A:=s ⟨h⟩
theorem zfH {A B:Prop} (h:B) (s:PLift B->A:=by intro hQ;refine aM (ax 0 33 (.a 33 (.q 34 (.q 35 .nil)))) ?_;refine aj ?_;refine bZ [0] (dw p1 1 nA aD) ?_;exact hQ.1):A:=s ⟨h⟩
theorem zfI {A B:Prop} (h:B) (s:PLift B->A:=by intro hQ;refine V [0] I ?_;exact hQ.1):A:=s ⟨h⟩
theorem zfJ {A:Prop} (s:A:=by refine D ?_;refine V [] hM ?_;refine V [0] aan ?_;exact iy):A:=s
theorem zfK {A:Prop} (s:A:=by rw [Ez];refine cy ?_;simp only [dJ];refine aj ?_;exact za9):A:=s
theorem zfL {A:Prop} (s:A:=by exact l6 hp _ _):A:=s
theorem zfM {A:Prop} (s:A:=by rw [k1];simp only;rw [k2];exact .inl ⟨r',rfl,G.tr k3⟩):A:=s
theorem zfN {A:Prop} (s:A:=by exact absurd G (Th _ _ _ (fun k d out h=>by cases h) _ _)):A:=s
theorem zfO {A:Prop} (s:A:=by refine ⟨pos,A4 k3 fun f k3=>?_⟩;refine zaS ?_;rw [k3]):A:=s
theorem zfP {A:Prop} (s:A:=by exact ⟨hl.1,by omega⟩):A:=s
theorem zfQ {A:Prop} (s:A:=by unfold dO;rw [show (t.n.kind==4)=false by simp;omega];rfl):A:=s
theorem zfR {A:Prop} (s:A:=by rw [E.tree,zT,kc,kc];exact ⟨fun _=>rfl,E.z a,trivial⟩):A:=s
theorem zfS {A:Prop} (s:A:=by rw [dk,this,hR];simp [br]):A:=s
theorem zfT {A:Prop} (s:A:=by refine zaN ?_;refine bY ?_;exact ⟨s,c1,i1,hs,rfl,rfl⟩):A:=s
theorem zfU {A:Prop} (s:A:=by rw [BS] at this;unfold dX;rw [xF (ry gy hi) h];exact this):A:=s
theorem zfV {A:Prop} (s:A:=by exact ⟨I,fun h=>G (by simp only [rO] at h |-;omega)⟩):A:=s
theorem zfW {A:Prop} (s:A:=by rw [G];simp only;rw [h3];exact ⟨by rw [cH],hn.tr h4⟩):A:=s
theorem zfX {A:Prop} (s:A:=by have:=h.w;unfold b7 wS at *;simp only [uO,cD] at *;omega):A:=s
theorem zfY {A:Prop} (s:A:=by rw [bU I] at hi;rw [bU G] at hj;exact h.dis i j b' hi hj):A:=s
theorem zfZ {A:Prop} (s:A:=by refine D ?_;refine V [] sA ?_;refine V [] cS ?_;exact al):A:=s
theorem zf0 {A:Prop} (s:A:=by refine ai func245 ntmps245 ?_;refine V [] hF ?_;exact al):A:=s
theorem zf1 {A:Prop} (s:A:=by exact h4 k t' a' (by simpa using ht) (by simpa using ha)):A:=s
theorem zf2 {A:Prop} (s:A:=by refine ai func198 ntmps198 ?_;refine V [] h0 ?_;exact al):A:=s
theorem zf3 {A:Prop} (s:A:=by rw [<-he,show N+1 - i=(N+1 - (i+1))+1 by omega,IM hx,jL]):A:=s
theorem zf4 {A B:Prop} (h:B) (s:PLift B->A:=by intro hQ;refine bF ?_;refine GL.wk (Wk.tS (t:=31) (i:=2) rfl rfl rfl) ?_;refine zaq ?_;refine V [] Eo ?_;exact hQ.1):A:=s ⟨h⟩
theorem zf5 {A:Prop} (s:A:=by repeat (first | exact di.n | (apply di.w;(· decide +kernel)) | (apply di.y;(· first | (apply YQ.t;(· exact rfl);(· exact rfl);(· (first | exact YG.jS 7 rfl rfl rfl ((eQ _ _ _ _).trans jK) hi | (first | exact fU | (apply K.idx;first | exact YG.idxV rfl rfl rfl az X | exact YG.aP 0 rfl rfl rfl aE | exact YG.aP 1 rfl rfl rfl aE | exact YG.aP 2 rfl rfl rfl aE | exact YG.aP 3 rfl rfl rfl aE | exact YG.aP 4 rfl rfl rfl aE | exact YG.aP 5 rfl rfl rfl aE | exact YG.aP 6 rfl rfl rfl aE) | exact fX | exact YG.fT 1 rfl rfl az az | exact YG.mv | exact YG.mG | (apply K.bin;first | exact YG.go rfl | exact YG.kG rfl rfl X | exact YG.jt rfl rfl | exact YG.ju rfl rfl | exact YG.oO rfl rfl | exact YG.oY rfl rfl | exact YG.cat rfl rfl X | exact YG.cat rfl rfl (by simp only [aL,length_cons,length_nil];omega) | exact YG.addN rfl rfl X | exact YG.add rfl rfl X | exact YG.sub rfl rfl X | exact YG.mul rfl rfl X | exact YG.ml rfl rfl X | exact YG.quo rfl rfl X | exact YG.rem rfl rfl X | exact YG.iH rfl rfl) | exact fK | exact fJ | exact gQ | exact fa | exact fp | (apply K.idx;first | exact YG.hO rfl rfl aJ | exact YG.cq rfl rfl aJ rfl | exact YG.cq rfl rfl aJ X | exact YG.kJ rfl rfl X) | exact YG.ext rfl rfl | exact YG.go rfl | (apply K.qm;first | exact YG.mj rfl rfl rfl X | exact YG.mi rfl rfl X | exact YG.mh rfl rfl X | exact YG.gz 1 rfl rfl rfl az) | exact YG.jC rfl rfl aJ | exact YG.idxSC rfl rfl aJ rfl | exact fq | exact YG.build rfl | exact YG.neg rfl X | exact YG.jz rfl rfl | exact YG.nO rfl (by first | rfl | exact IntWalk.i64_in _ X | exact IntWalk.u8_in _ X | assumption) | exact YG.str rfl az)))) | (apply YQ.t;(· exact rfl);(· apply rN;(· exact rfl);(· first | exact rfl | assumption));(· (first | exact YG.jS 7 rfl rfl rfl ((eQ _ _ _ _).trans jK) hi | (first | exact fU | (apply K.idx;first | exact YG.idxV rfl rfl rfl az X | exact YG.aP 0 rfl rfl rfl aE | exact YG.aP 1 rfl rfl rfl aE | exact YG.aP 2 rfl rfl rfl aE | exact YG.aP 3 rfl rfl rfl aE | exact YG.aP 4 rfl rfl rfl aE | exact YG.aP 5 rfl rfl rfl aE | exact YG.aP 6 rfl rfl rfl aE) | exact fX | exact YG.fT 1 rfl rfl az az | exact YG.mv | exact YG.mG | (apply K.bin;first | exact YG.go rfl | exact YG.kG rfl rfl X | exact YG.jt rfl rfl | exact YG.ju rfl rfl | exact YG.oO rfl rfl | exact YG.oY rfl rfl | exact YG.cat rfl rfl X | exact YG.cat rfl rfl (by simp only [aL,length_cons,length_nil];omega) | exact YG.addN rfl rfl X | exact YG.add rfl rfl X | exact YG.sub rfl rfl X | exact YG.mul rfl rfl X | exact YG.ml rfl rfl X | exact YG.quo rfl rfl X | exact YG.rem rfl rfl X | exact YG.iH rfl rfl) | exact fK | exact fJ | exact gQ | exact fa | exact fp | (apply K.idx;first | exact YG.hO rfl rfl aJ | exact YG.cq rfl rfl aJ rfl | exact YG.cq rfl rfl aJ X | exact YG.kJ rfl rfl X) | exact YG.ext rfl rfl | exact YG.go rfl | (apply K.qm;first | exact YG.mj rfl rfl rfl X | exact YG.mi rfl rfl X | exact YG.mh rfl rfl X | exact YG.gz 1 rfl rfl rfl az) | exact YG.jC rfl rfl aJ | exact YG.idxSC rfl rfl aJ rfl | exact fq | exact YG.build rfl | exact YG.neg rfl X | exact YG.jz rfl rfl | exact YG.nO rfl (by first | rfl | exact IntWalk.i64_in _ X | exact IntWalk.u8_in _ X | assumption) | exact YG.str rfl az)))) | (apply YQ.f;(· exact rfl);(· apply sy;(· exact rfl);(· first | exact rfl | assumption))))))):A:=s
theorem zf6 {A:Prop} (s:A:=by repeat (first | exact di.n | (apply di.w;(· decide +kernel)) | (apply di.y;(· first | (apply YQ.t;(· exact rfl);(· exact rfl);(· (first | exact YG.jS 7 rfl rfl rfl jK hi | (first | exact fU | (apply K.idx;first | exact YG.idxV rfl rfl rfl az X | exact YG.aP 0 rfl rfl rfl aE | exact YG.aP 1 rfl rfl rfl aE | exact YG.aP 2 rfl rfl rfl aE | exact YG.aP 3 rfl rfl rfl aE | exact YG.aP 4 rfl rfl rfl aE | exact YG.aP 5 rfl rfl rfl aE | exact YG.aP 6 rfl rfl rfl aE) | exact fX | exact YG.fT 1 rfl rfl az az | exact YG.mv | exact YG.mG | (apply K.bin;first | exact YG.go rfl | exact YG.kG rfl rfl X | exact YG.jt rfl rfl | exact YG.ju rfl rfl | exact YG.oO rfl rfl | exact YG.oY rfl rfl | exact YG.cat rfl rfl X | exact YG.cat rfl rfl (by simp only [aL,length_cons,length_nil];omega) | exact YG.addN rfl rfl X | exact YG.add rfl rfl X | exact YG.sub rfl rfl X | exact YG.mul rfl rfl X | exact YG.ml rfl rfl X | exact YG.quo rfl rfl X | exact YG.rem rfl rfl X | exact YG.iH rfl rfl) | exact fK | exact fJ | exact gQ | exact fa | exact fp | (apply K.idx;first | exact YG.hO rfl rfl aJ | exact YG.cq rfl rfl aJ rfl | exact YG.cq rfl rfl aJ X | exact YG.kJ rfl rfl X) | exact YG.ext rfl rfl | exact YG.go rfl | (apply K.qm;first | exact YG.mj rfl rfl rfl X | exact YG.mi rfl rfl X | exact YG.mh rfl rfl X | exact YG.gz 1 rfl rfl rfl az) | exact YG.jC rfl rfl aJ | exact YG.idxSC rfl rfl aJ rfl | exact fq | exact YG.build rfl | exact YG.neg rfl X | exact YG.jz rfl rfl | exact YG.nO rfl (by first | rfl | exact IntWalk.i64_in _ X | exact IntWalk.u8_in _ X | assumption) | exact YG.str rfl az)))) | (apply YQ.t;(· exact rfl);(· apply rN;(· exact rfl);(· first | exact rfl | assumption));(· (first | exact YG.jS 7 rfl rfl rfl jK hi | (first | exact fU | (apply K.idx;first | exact YG.idxV rfl rfl rfl az X | exact YG.aP 0 rfl rfl rfl aE | exact YG.aP 1 rfl rfl rfl aE | exact YG.aP 2 rfl rfl rfl aE | exact YG.aP 3 rfl rfl rfl aE | exact YG.aP 4 rfl rfl rfl aE | exact YG.aP 5 rfl rfl rfl aE | exact YG.aP 6 rfl rfl rfl aE) | exact fX | exact YG.fT 1 rfl rfl az az | exact YG.mv | exact YG.mG | (apply K.bin;first | exact YG.go rfl | exact YG.kG rfl rfl X | exact YG.jt rfl rfl | exact YG.ju rfl rfl | exact YG.oO rfl rfl | exact YG.oY rfl rfl | exact YG.cat rfl rfl X | exact YG.cat rfl rfl (by simp only [aL,length_cons,length_nil];omega) | exact YG.addN rfl rfl X | exact YG.add rfl rfl X | exact YG.sub rfl rfl X | exact YG.mul rfl rfl X | exact YG.ml rfl rfl X | exact YG.quo rfl rfl X | exact YG.rem rfl rfl X | exact YG.iH rfl rfl) | exact fK | exact fJ | exact gQ | exact fa | exact fp | (apply K.idx;first | exact YG.hO rfl rfl aJ | exact YG.cq rfl rfl aJ rfl | exact YG.cq rfl rfl aJ X | exact YG.kJ rfl rfl X) | exact YG.ext rfl rfl | exact YG.go rfl | (apply K.qm;first | exact YG.mj rfl rfl rfl X | exact YG.mi rfl rfl X | exact YG.mh rfl rfl X | exact YG.gz 1 rfl rfl rfl az) | exact YG.jC rfl rfl aJ | exact YG.idxSC rfl rfl aJ rfl | exact fq | exact YG.build rfl | exact YG.neg rfl X | exact YG.jz rfl rfl | exact YG.nO rfl (by first | rfl | exact IntWalk.i64_in _ X | exact IntWalk.u8_in _ X | assumption) | exact YG.str rfl az)))) | (apply YQ.f;(· exact rfl);(· apply sy;(· exact rfl);(· first | exact rfl | assumption))))))):A:=s
theorem zf7 {A:Prop} (s:A:=by repeat (first | exact di.n | (apply di.w;(· decide +kernel)) | (apply di.y;(· first | (apply YQ.t;(· exact rfl);(· exact rfl);(· (first | exact fU | (apply K.idx;first | exact YG.idxV rfl rfl rfl az X | exact YG.aP 0 rfl rfl rfl aE | exact YG.aP 1 rfl rfl rfl aE | exact YG.aP 2 rfl rfl rfl aE | exact YG.aP 3 rfl rfl rfl aE | exact YG.aP 4 rfl rfl rfl aE | exact YG.aP 5 rfl rfl rfl aE | exact YG.aP 6 rfl rfl rfl aE) | exact fX | exact YG.fT 1 rfl rfl az az | exact YG.mv | exact YG.mG | (apply K.bin;first | exact YG.go rfl | exact YG.kG rfl rfl X | exact YG.jt rfl rfl | exact YG.ju rfl rfl | exact YG.oO rfl rfl | exact YG.oY rfl rfl | exact YG.cat rfl rfl X | exact YG.cat rfl rfl (by simp only [aL,length_cons,length_nil];omega) | exact YG.addN rfl rfl X | exact YG.add rfl rfl X | exact YG.sub rfl rfl X | exact YG.mul rfl rfl X | exact YG.ml rfl rfl X | exact YG.quo rfl rfl X | exact YG.rem rfl rfl X | exact YG.iH rfl rfl) | exact fK | exact fJ | exact gQ | exact fa | exact fp | (apply K.idx;first | exact YG.hO rfl rfl aJ | exact YG.cq rfl rfl aJ rfl | exact YG.cq rfl rfl aJ X | exact YG.kJ rfl rfl X) | exact YG.ext rfl rfl | exact YG.go rfl | (apply K.qm;first | exact YG.mj rfl rfl rfl X | exact YG.mi rfl rfl X | exact YG.mh rfl rfl X | exact YG.gz 1 rfl rfl rfl az) | exact YG.jC rfl rfl aJ | exact YG.idxSC rfl rfl aJ rfl | exact fq | exact YG.build rfl | exact YG.neg rfl X | exact YG.jz rfl rfl | exact YG.nO rfl (by first | rfl | exact IntWalk.i64_in _ X | exact IntWalk.u8_in _ X | assumption) | exact YG.str rfl az))) | (apply YQ.t;(· exact rfl);(· apply rN;(· exact rfl);(· first | exact rfl | assumption));(· (first | exact fU | (apply K.idx;first | exact YG.idxV rfl rfl rfl az X | exact YG.aP 0 rfl rfl rfl aE | exact YG.aP 1 rfl rfl rfl aE | exact YG.aP 2 rfl rfl rfl aE | exact YG.aP 3 rfl rfl rfl aE | exact YG.aP 4 rfl rfl rfl aE | exact YG.aP 5 rfl rfl rfl aE | exact YG.aP 6 rfl rfl rfl aE) | exact fX | exact YG.fT 1 rfl rfl az az | exact YG.mv | exact YG.mG | (apply K.bin;first | exact YG.go rfl | exact YG.kG rfl rfl X | exact YG.jt rfl rfl | exact YG.ju rfl rfl | exact YG.oO rfl rfl | exact YG.oY rfl rfl | exact YG.cat rfl rfl X | exact YG.cat rfl rfl (by simp only [aL,length_cons,length_nil];omega) | exact YG.addN rfl rfl X | exact YG.add rfl rfl X | exact YG.sub rfl rfl X | exact YG.mul rfl rfl X | exact YG.ml rfl rfl X | exact YG.quo rfl rfl X | exact YG.rem rfl rfl X | exact YG.iH rfl rfl) | exact fK | exact fJ | exact gQ | exact fa | exact fp | (apply K.idx;first | exact YG.hO rfl rfl aJ | exact YG.cq rfl rfl aJ rfl | exact YG.cq rfl rfl aJ X | exact YG.kJ rfl rfl X) | exact YG.ext rfl rfl | exact YG.go rfl | (apply K.qm;first | exact YG.mj rfl rfl rfl X | exact YG.mi rfl rfl X | exact YG.mh rfl rfl X | exact YG.gz 1 rfl rfl rfl az) | exact YG.jC rfl rfl aJ | exact YG.idxSC rfl rfl aJ rfl | exact fq | exact YG.build rfl | exact YG.neg rfl X | exact YG.jz rfl rfl | exact YG.nO rfl (by first | rfl | exact IntWalk.i64_in _ X | exact IntWalk.u8_in _ X | assumption) | exact YG.str rfl az))) | (apply YQ.f;(· exact rfl);(· apply sy;(· exact rfl);(· first | exact rfl | assumption))))))):A:=s
theorem zf8 {A:Prop} (s:A:=by simp):A:=s
theorem zf9 {A:Prop} (s:A:=by show ¬ (decide (a < 0)=true);rw [ha];decide):A:=s
theorem zga {A:Prop} (s:A:=by rw [he];intro h0;cases h0;exact hx rfl):A:=s
theorem zgb {A:Prop} (s:A:=by omega):A:=s
theorem zgc {A:Prop} (s:A:=by simpa using h):A:=s
theorem zgd {A:Prop} (s:A:=by rw [he];intro h0;cases h0):A:=s
theorem zge {A:Prop} (s:A:=by simpa using hl):A:=s
theorem zgf {A:Prop} (s:A:=by simpa using I):A:=s
theorem zgg {A:Prop} (s:A:=by cases h):A:=s
theorem zgh {A:Prop} (s:A:=by first | rfl | exact IntWalk.i64_in _ X | exact IntWalk.u8_in _ X | assumption):A:=s
theorem zgi {A:Prop} (s:A:=by unfold lim;omega):A:=s
theorem zgj {A:Prop} (s:A:=by rw [h0]):A:=s
theorem zgk {A:Prop} (s:A:=by simpa using kV h5 0 t rfl):A:=s
theorem zgl {A:Prop} (s:A:=by simp only [aL,length_cons,length_nil];omega):A:=s
theorem zgm {A:Prop} (s:A:=by rw [List.mem_take_iff_getElem];exact ⟨j,by omega,rfl⟩):A:=s
theorem zgn {A:Prop} (s:A:=by simp only [lY,aB];omega):A:=s
theorem zgo {A:Prop} (s:A:=by simp only [vy] at h |-;omega):A:=s
theorem zgp {A:Prop} (s:A:=by simpa using hj):A:=s
theorem zgq {A:Prop} (s:A:=by simpa using G):A:=s
theorem zgr {A:Prop} (s:A:=by rw [bM];omega):A:=s
theorem zgs {A:Prop} (s:A:=by rw [bQ,fb,ab (fun e=>cj e.symm)];exact hi):A:=s
theorem zgt {A:Prop} (s:A:=by rw [hs];decide):A:=s
theorem zgu {A:Prop} (s:A:=by simpa using hb):A:=s
theorem zgv {A:Prop} (s:A:=by simpa using hv):A:=s
theorem zgw {A:Prop} (s:A:=by first | exact rfl | assumption):A:=s
theorem zgx {A:Prop} (s:A:=by simpa using hc):A:=s
theorem zgy {A:Prop} (s:A:=by simpa using hk):A:=s
theorem zgz {A:Prop} (s:A:=by unfold fW at hf |-;rw [rI];exact hf):A:=s
theorem zgA {A:Prop} (s:A:=by rw [gE];omega):A:=s
theorem zgB {A:Prop} (s:A:=by rw [sW];omega):A:=s
theorem zgC {A:Prop} (s:A:=by have:=(c2 f (bo h.gf)).2.1;omega):A:=s
theorem zgD {A:Prop} (s:A:=by simp;omega):A:=s
theorem zgE {A:Prop} (s:A:=by simp [execOp,resolve,invoke,builtin,uo,w5,qy]):A:=s
theorem zgF {A:Prop} (s:A:=by unfold fN;omega):A:=s
theorem zgG {A:Prop} (s:A:=by rw [cS];trivial):A:=s
theorem zgH {A:Prop} (s:A:=by simpa using kV h5 1 u rfl):A:=s
theorem zgI {A:Prop} (s:A:=by simp [Op.operands]):A:=s
theorem zgJ {A:Prop} (s:A:=by rw [ha];rfl):A:=s
theorem zgK {A:Prop} (s:A:=by rw [eO];exact hb):A:=s
theorem zgL {A:Prop} (s:A:=by rw [rI];exact hs):A:=s
theorem zgM {A:Prop} (s:A:=by unfold KF at hg;omega):A:=s
theorem zgN {A:Prop} (s:A:=by simpa using h0):A:=s
theorem zgO {A:Prop} (s:A:=by rw [hb];decide):A:=s
theorem zgP {A:Prop} (s:A:=by unfold lim cR;omega):A:=s
theorem zgQ {A:Prop} (s:A:=by rw [length_cons] at hG;omega):A:=s
theorem zgR {A:Prop} (s:A:=by rw [dj];exact gT.1):A:=s
theorem zgS {A:Prop} (s:A:=by rw [h3.1,hk]):A:=s
theorem zgT {A:Prop} (s:A:=by simp [hi]):A:=s
theorem zgU {A:Prop} (s:A:=by simp at dj;omega):A:=s
theorem zgV {A:Prop} (s:A:=by simp only;omega):A:=s
theorem zgW {A:Prop} (s:A:=by simp at hb):A:=s
theorem zgX {A:Prop} (s:A:=by rw [hv];decide):A:=s
theorem zgY {A:Prop} (s:A:=by simpa using hn):A:=s
theorem zgZ {A:Prop} (s:A:=by rw [lH,jL,<-Nat.add_mul,dj];exact ua _ hroom):A:=s
theorem zg0 {A:Prop} (s:A:=by simp only [pH,oR];rfl):A:=s
theorem zg1 {A:Prop} (s:A:=by rw [bp,G];rfl):A:=s
theorem zg2 {A:Prop} (s:A:=by rw [bh];omega):A:=s
theorem zg3 {A:Prop} (s:A:=by rw [ki];omega):A:=s
theorem zg4 {A:Prop} (s:A:=by simp [rs]):A:=s
theorem zg5 {A:Prop} (s:A:=by rw [gm kR];simp [kR]):A:=s
theorem zg6 {A:Prop} (s:A:=by first | rfl | decide):A:=s
theorem zg7 {A:Prop} (s:A:=by have:=nL ht;simp only [vy] at h |-;omega):A:=s
theorem zg8 {A:Prop} (s:A:=by rw [show k+1+t=k+(t+1) by omega];exact h):A:=s
theorem zg9 {A:Prop} (s:A:=by simpa [bQ] using hj):A:=s
theorem zha {A:Prop} (s:A:=by rw [Et,sW];exact growslice_fits zgb zgb):A:=s
theorem zhb {A:Prop} (s:A:=by cases hb):A:=s
theorem zhc {A:Prop} (s:A:=by rw [DK hp hu];rintro ⟨_,h⟩;cases h):A:=s
theorem zhd {A:Prop} (s:A:=by simpa [pO] using I):A:=s
theorem zhe {A:Prop} (s:A:=by rw [hm];exact aI _):A:=s
theorem zhf {A:Prop} (s:A:=by cases h;rfl):A:=s
theorem zhg {A:Prop} (s:A:=by have:=hn.fresh;have:=h.ext.size;omega):A:=s
theorem zhh {A:Prop} (s:A:=by have:=hb i;rw [h] at this;exact this):A:=s
end Go
namespace Go
theorem av {A:Prop} (s:A:=by omega):A:=s
theorem ar {A:Prop} (s:A:=by decide):A:=s
theorem bB {α:Type _} {l:List α} {i:Nat} {a:α} (h:l[i]?=some a):∃ (h:i<l.length),l[i]=a:=List.getElem?_eq_some_iff.1 h
theorem fh {α:Type _} {a b:α} {l:List α} (h:a∈b::l):a=b\/a∈l:=List.mem_cons.1 h
theorem mo {α:Type _} {a:α} {s t:List α} (h:a∈s++t):a∈s\/a∈t:=List.mem_append.1 h
theorem xq {α:Type _} {a b:α} (h:a∈[b]):a=b:=List.mem_singleton.1 h
theorem pS {α:Type _} {l:List α} {i:Nat} (h:l[i]?=none):l.length<=i:=List.getElem?_eq_none_iff.1 h
theorem ab:type_of% @if_neg:=@if_neg
theorem ah:type_of% @if_pos:=@if_pos
theorem aK:type_of% @Bool.and_eq_true:=@Bool.and_eq_true
theorem bo:type_of% @List.mem_of_getElem?:=@List.mem_of_getElem?
theorem aL:type_of% @List.length_append:=@List.length_append
theorem aI:type_of% @Nat.le_refl:=@Nat.le_refl
theorem bp:type_of% @List.getElem?_map:=@List.getElem?_map
theorem aS:type_of% @Nat.zero_le:=@Nat.zero_le
theorem bV:type_of% @List.getElem?_eq_getElem:=@List.getElem?_eq_getElem
theorem bM:type_of% @List.length_map:=@List.length_map
theorem ig:type_of% @List.eq_nil_of_length_eq_zero:=@List.eq_nil_of_length_eq_zero
theorem dk:type_of% @List.take_add_one:=@List.take_add_one
theorem c6:type_of% @Nat.le_of_ble_eq_true:=@Nat.le_of_ble_eq_true
theorem c7:type_of% @List.take_length:=@List.take_length
theorem eF:type_of% @List.append_assoc:=@List.append_assoc
theorem dJ:type_of% @Nat.zero_add:=@Nat.zero_add
theorem dK:type_of% @List.mem_cons_of_mem:=@List.mem_cons_of_mem
theorem gR:type_of% @List.getElem?_append_right:=@List.getElem?_append_right
theorem gE:type_of% @List.length_take:=@List.length_take
theorem dN:type_of% @List.append_nil:=@List.append_nil
theorem gm:type_of% @List.getElem?_append_left:=@List.getElem?_append_left
theorem fb:type_of% @List.getElem?_set:=@List.getElem?_set
theorem va:type_of% @List.length_zipWith:=@List.length_zipWith
theorem iJ:type_of% @Nat.add_assoc:=@Nat.add_assoc
theorem tZ:type_of% @Nat.sub_self:=@Nat.sub_self
theorem n5:type_of% @List.drop_eq_getElem_cons:=@List.drop_eq_getElem_cons
theorem n7:type_of% @List.take_of_length_le:=@List.take_of_length_le
theorem jV:type_of% @Nat.le_trans:=@Nat.le_trans
theorem lE:type_of% @List.length_drop:=@List.length_drop
theorem xY:type_of% @Option.some.inj:=@Option.some.inj
theorem l9:type_of% @List.map_append:=@List.map_append
theorem ea:type_of% @List.contains_iff_mem:=@List.contains_iff_mem
theorem n8:type_of% @of_decide_eq_true:=@of_decide_eq_true
theorem jb:type_of% @List.all_eq_true:=@List.all_eq_true
theorem iK:type_of% @Int.toNat_natCast:=@Int.toNat_natCast
theorem ua:type_of% @Nat.mul_le_mul_right:=@Nat.mul_le_mul_right
theorem AA:type_of% @Nat.lt_of_lt_of_le:=@Nat.lt_of_lt_of_le
theorem vb:type_of% @mem_map:=@mem_map
theorem sw:type_of% @List.any_eq_true:=@List.any_eq_true
end Go
namespace Go.Xp
abbrev ae:=List UInt8
structure Tok where
 kind:Int
 n:Int
 s:ae
 at_:Int
structure Nd where
 kind:Int
 at_:Int
 n:Int
 s:ae
 kids:List Int
inductive T where
 | mk (n:Nd) (kids:List T)
def T.n:T->Nd | .mk n _=>n
def T.kids:T->List T | .mk _ k=>k
abbrev Er:=Int × Int
abbrev Rd (α:Type):=Except Er (α × List Tok)
def dZ (t:Tok):ae:=if t.kind=3 then t.s else []
def sign (ts:List Tok) (k:Nat):ae:=match ts[k]? with | some t=>dZ t | none=>[]
def place (e:Int):List Tok->Int
 | t::_=>t.at_
 | []=>e
def aR (e:Int) (s:ae) (ts:List Tok):Except Er (List Tok) :=
 if sign ts 0=s then .ok ts.tail else .error (7,place e ts)
def name (e:Int):List Tok->Rd ae
 | []=>.error (7,e)
 | t::r=>if t.kind=2 then (if t.s.length > 12 then .error (8,t.at_) else .ok (t.s,r)) else .error (7,t.at_)
def one (kind at_:Int) (s:ae) (kids:List T):T:=.mk ⟨kind,at_,0,s,[]⟩ kids
def levels:List (List ae):=[[[124,124]],[[38,38]],[[61,61],[33,61],[60],[62],[60,61],[62,61]],[[124]],[[94]],[[38]],[[60,60],[62,62]],[[43],[45]],[[42],[47],[37]]]
def bx:Er:=(-1,-1)
inductive xv where
 | expr (deep:Nat)
 | level (k deep:Nat)
 | loop (k deep:Nat) (out:T)
 | operand (deep:Nat)
def rd (e:Int):Nat->xv->List Tok->Rd T
 | 0,_,_=>.error bx
 | f+1,.expr deep,ts=>if deep > 60 then .error (9,place e ts) else rd e f (.level 0 (deep+1)) ts
 | f+1,.level k deep,ts =>
  if k=9 then rd e f (.operand deep) ts
  else match rd e f (.level (k+1) deep) ts with
   | .error x=>.error x
   | .ok (out,ts)=>rd e f (.loop k deep out) ts
 | f+1,.loop k deep out,ts =>
  match ts with
  | []=>.ok (out,ts)
  | t::r =>
   if t.kind=3/\t.s∈levels.getD k [] then
    match rd e f (.level (k+1) deep) r with
    | .error x=>.error x
    | .ok (b,r)=>rd e f (.loop k deep (one 6 t.at_ t.s [out,b])) r
   else .ok (out,ts)
 | f+1,.operand deep,ts =>
  if deep > 60 then .error (9,place e ts)
  else match ts with
  | []=>.error (7,e)
  | t::r =>
   if t.kind=3 then
    if t.s=[45]\/t.s=[33]\/t.s=[126] then
     match rd e f (.operand (deep+1)) r with
     | .error x=>.error x
     | .ok (a,r)=>.ok (one 5 t.at_ t.s [a],r)
    else if t.s=[40] then
     match rd e f (.expr (deep+1)) r with
     | .error x=>.error x
     | .ok (a,r)=>match aR e [41] r with
      | .error x=>.error x
      | .ok r=>.ok (a,r)
    else .error (7,t.at_)
   else if t.kind=1 then .ok (.mk ⟨1,t.at_,t.n,[],[]⟩ [],r)
   else match name e ts with
    | .error x=>.error x
    | .ok (s,r) =>
     if sign r 0=[91] then
      match rd e f (.expr (deep+1)) r.tail with
      | .error x=>.error x
      | .ok (a,r)=>match aR e [93] r with
       | .error x=>.error x
       | .ok r=>.ok (one 3 t.at_ s [a],r)
     else if sign r 0=[40] then
      match args e f (deep+1) [] r.tail with
      | .error x=>.error x
      | .ok (l,r)=>.ok (one 4 t.at_ s l,r)
     else .ok (one 2 t.at_ s [],r)
where
 args (e:Int):Nat->Nat->List T->List Tok->Rd (List T)
  | 0,_,_,_=>.error bx
  | f+1,deep,acc,ts =>
   if sign ts 0=[41] then .ok (acc,ts.tail)
   else match (if acc=[] then .ok ts else aR e [44] ts) with
    | .error x=>.error x
    | .ok ts=>match rd e f (.expr deep) ts with
     | .error x=>.error x
     | .ok (a,ts)=>args e f deep (acc++[a]) ts
def oE:ae:=[118,97,114]
def ir:ae:=[105,102]
def km:ae:=[101,108,115,101]
def jd:ae:=[119,104,105,108,101]
def iR:ae:=[114,101,116,117,114,110]
def jU:ae:=[105,110,116]
def ko:ae:=[102,117,110,99]
inductive vE where
 | block (deep:Nat)
 | stmt (deep:Nat)
def p9 (ts:List Tok):Nat:=20 * ts.length+20
def expr (e:Int) (deep:Nat) (ts:List Tok):Rd T:=rd e (p9 ts) (.expr deep) ts
def inner (e:Int) (deep:Nat) (a b:ae) (ts:List Tok):Rd T :=
 match aR e a ts with
 | .error x=>.error x
 | .ok ts=>match expr e deep ts with
  | .error x=>.error x
  | .ok (t,ts)=>match aR e b ts with
   | .error x=>.error x
   | .ok ts=>.ok (t,ts)
def nZ (e:Int) (deep:Nat) (ts:List Tok):Rd (ae × T) :=
 match name e ts with
 | .error x=>.error x
 | .ok (s,ts)=>match inner e deep [61] [59] ts with
  | .error x=>.error x
  | .ok (t,ts)=>.ok ((s,t),ts)
def simple (e:Int) (deep:Nat) (ts:List Tok):Rd T :=
 match ts with
 | []=>match expr e (deep+1) [] with
  | .error x=>.error x
  | .ok _=>.error (7,e)
 | t::_ =>
  if t.kind=2/\sign ts 1=[61] then
   match nZ e (deep+1) ts with
   | .error x=>.error x
   | .ok ((s,a),ts)=>.ok (one 7 t.at_ s [a],ts)
  else match expr e (deep+1) ts with
   | .error x=>.error x
   | .ok (a,ts) =>
    if a.n.kind=3/\a.n.at_=t.at_/\sign ts 0=[61] then
     match inner e (deep+1) [61] [59] ts with
     | .error x=>.error x
     | .ok (v,ts)=>.ok (one 8 t.at_ a.n.s (a.kids.take 1++[v]),ts)
    else match aR e [59] ts with
     | .error x=>.error x
     | .ok ts=>.ok (one 12 t.at_ [] [a],ts)
def rs (e:Int):Nat->vE->List Tok->Rd T
 | 0,_,_=>.error bx
 | f+1,.block deep,ts =>
  if deep > 60 then .error (9,place e ts)
  else match aR e [123] ts with
   | .error x=>.error x
   | .ok r=>match body e f (deep+1) [] r with
    | .error x=>.error x
    | .ok (l,r)=>.ok (one 14 (place e ts) [] l,r)
 | f+1,.stmt deep,ts =>
  if deep > 60 then .error (9,place e ts)
  else
   let at_:=place e ts
   if sign ts 0=oE then
    match nZ e (deep+1) ts.tail with
    | .error x=>.error x
    | .ok ((s,a),ts)=>.ok (one 13 at_ s [a],ts)
   else if sign ts 0=ir\/sign ts 0=jd then
    match inner e (deep+1) [40] [41] ts.tail with
    | .error x=>.error x
    | .ok (c,r)=>match rs e f (.block (deep+1)) r with
     | .error x=>.error x
     | .ok (b,r) =>
      if sign ts 0=ir then
       if sign r 0=km then
        match rs e f (.block (deep+1)) r.tail with
        | .error x=>.error x
        | .ok (b2,r)=>.ok (one 9 at_ [] [c,b,b2],r)
       else .ok (one 9 at_ [] [c,b],r)
      else .ok (one 10 at_ [] [c,b],r)
   else if sign ts 0=iR then
    match expr e (deep+1) ts.tail with
    | .error x=>.error x
    | .ok (a,ts)=>match aR e [59] ts with
     | .error x=>.error x
     | .ok ts=>.ok (one 11 at_ [] [a],ts)
   else simple e deep ts
where
 body (e:Int):Nat->Nat->List T->List Tok->Rd (List T)
  | 0,_,_,_=>.error bx
  | f+1,deep,acc,ts =>
   if sign ts 0=[125] then .ok (acc,ts.tail)
   else match rs e f (.stmt deep) ts with
    | .error x=>.error x
    | .ok (a,ts)=>body e f deep (acc++[a]) ts
def block (e:Int) (deep:Nat) (ts:List Tok):Rd T:=rs e (p9 ts) (.block deep) ts
structure Ar where
 name:ae
 size:Int
structure aO where
 name:ae
 params:List ae
 tree:T
end Go.Xp
namespace Go.Sp
open Go.Xp
structure RS where
 l:List Tok
 i:Nat
 e:Int
 code:Int
 at_:Int
def RS.ok (p:RS):Prop:=p.i<=p.l.length/\p.l.length<=1099511627776
def RS.place (p:RS):Int:=match p.l[p.i]? with | some t=>t.at_ | none=>p.e
def RS.fail (p:RS) (c a:Int):RS:=if p.code=0 then ⟨p.l,p.i,p.e,c,a⟩ else p
def RS.sign (p:RS) (k:Nat):ae:=if p.code=0 then (match p.l[p.i+k]? with | some t=>dZ t | none=>[]) else []
def RS.next (p:RS):RS:=⟨p.l,p.i+1,p.e,p.code,p.at_⟩
def RS.aR (p:RS) (s:ae):RS:=if p.sign 0=s then p.next else p.fail 7 p.place
def RS.name (p:RS):ae × RS :=
 if p.code=0 then match p.l[p.i]? with
  | some t=>if t.kind=2 then (if t.s.length > 12 then ([],p.fail 8 t.at_) else (t.s,p.next)) else ([],p.fail 7 p.place)
  | none=>([],p.fail 7 p.place)
 else ([],p)
def RS.deep (p:RS) (d:Nat):RS:=if d > 60 then p.fail 9 p.place else p
def T.zero:T:=.mk ⟨0,0,0,[],[]⟩ []
inductive J where
 | expr (d:Nat)
 | level (k d:Nat)
 | loop (k d:Nat) (out:T)
 | operand (d:Nat)
 | named (at_:Int) (s:ae) (d:Nat)
mutual
def mE:Nat->J->RS->Option (T × RS)
 | 0,_,_=>none
 | f+1,.expr d,p=>mE f (.level 0 d) (p.deep d)
 | f+1,.level k d,p =>
  if k=9 then mE f (.operand (d+1)) p
  else match mE f (.level (k+1) d) p with
   | none=>none
   | some (out,p)=>mE f (.loop k d out) p
 | f+1,.loop k d out,p =>
  if p.code=0/\(levels.getD k []).contains (p.sign 0)=true then
   match p.l[p.i]? with
   | none=>none
   | some t=>match mE f (.level (k+1) d) p.next with
    | none=>none
    | some (b,p)=>mE f (.loop k d (one 6 t.at_ t.s [out,b])) p
  else some (out,p)
 | f+1,.operand d,p =>
  let p:=p.deep d
  if p.code=0 then match p.l[p.i]? with
   | none=>some (T.zero,p.fail 7 p.place)
   | some t =>
    if t.kind=1 then some (.mk ⟨1,t.at_,t.n,[],[]⟩ [],p.next)
    else if t.kind=2 then mE f (.named t.at_ p.name.1 d) p.name.2
    else if t.s=[45]\/t.s=[33]\/t.s=[126] then match mE f (.operand (d+1)) p.next with
     | none=>none
     | some (a,p)=>some (one 5 t.at_ t.s [a],p)
    else if t.s=[40] then match mE f (.expr (d+1)) p.next with
     | none=>none
     | some (a,p)=>some (a,p.aR [41])
    else some (T.zero,p.fail 7 t.at_)
  else some (T.zero,p.fail 7 p.place)
 | f+1,.named at_ s d,p =>
  if p.sign 0=[91] then match mE f (.expr (d+1)) p.next with
   | none=>none
   | some (a,p)=>some (one 3 at_ s [a],p.aR [93])
  else if p.sign 0=[40] then match mL f (d+1) p.next with
   | none=>none
   | some (l,p)=>some (one 4 at_ s l,p)
  else some (one 2 at_ s [],p)
def mL:Nat->Nat->RS->Option (List T × RS)
 | 0,_,_=>none
 | f+1,d,p=>if p.sign 0=[41] then some ([],p.aR [41]) else match mE f (.expr d) p with
  | none=>none
  | some (a,p)=>td f d [a] p
def td:Nat->Nat->List T->RS->Option (List T × RS)
 | 0,_,_,_=>none
 | f+1,d,acc,p=>if p.sign 0=[44] then match mE f (.expr d) p.next with
   | none=>none
   | some (a,p)=>td f d (acc++[a]) p
  else some (acc,p.aR [41])
end
def RS.qZ (p:RS):Bool:=match p.l[p.i]? with | some t=>decide (t.kind=2) | none=>false
def RS.ck (p:RS):Int:=if p.sign 0=ir then 9 else 10
inductive JS where
 | block (d:Nat)
 | stmt (d:Nat)
 | cond (at_:Int) (d:Nat)
def fe (p:RS):Nat:=100 * p.l.length+2000
def mX (d:Nat) (p:RS):Option (T × RS):=mE (fe p) (.expr d) p
mutual
def mS:Nat->JS->RS->Option (T × RS)
 | 0,_,_=>none
 | f+1,.block d,p =>
  let p:=p.deep d
  match mB f (d+1) [] (p.aR [123]) with
  | none=>none
  | some (l,q)=>some (one 14 p.place [] l,q.aR [125])
 | f+1,.stmt d,p =>
  let p:=p.deep d
  let at_:=p.place
  let s:=p.sign 0
  if s=oE then match mX (d+1) ((p.next.name.2).aR [61]) with
   | none=>none
   | some (e,q)=>some (one 13 at_ p.next.name.1 [e],q.aR [59])
  else if s=ir\/s=jd then mS f (.cond at_ d) p
  else if s=iR then match mX (d+1) p.next with
   | none=>none
   | some (e,q)=>some (one 11 at_ [] [e],q.aR [59])
  else if p.code=0/\p.qZ=true/\p.sign 1=[61] then match mX (d+1) (p.name.2.aR [61]) with
   | none=>none
   | some (e,q)=>some (one 7 at_ p.name.1 [e],q.aR [59])
  else match mX (d+1) p with
   | none=>none
   | some (e,q) =>
    if e.n.kind=3/\e.n.at_=at_/\q.sign 0=[61] then match e.kids,mX (d+1) q.next with
     | a::_,some (v,q)=>some (one 8 at_ e.n.s [a,v],q.aR [59])
     | _,_=>none
    else some (one 12 at_ [] [e],q.aR [59])
 | f+1,.cond at_ d,p =>
  match mX (d+1) (p.next.aR [40]) with
  | none=>none
  | some (e,q)=>match mS f (.block (d+1)) (q.aR [41]) with
   | none=>none
   | some (b,q) =>
    if p.ck=9/\q.sign 0=km then match mS f (.block (d+1)) q.next with
     | none=>none
     | some (b2,q)=>some (one p.ck at_ [] [e,b,b2],q)
    else some (one p.ck at_ [] [e,b],q)
def mB:Nat->Nat->List T->RS->Option (List T × RS)
 | 0,_,_,_=>none
 | f+1,d,acc,p=>if p.code=0/\¬ p.sign 0=[125] then match mS f (.stmt d) p with
   | none=>none
   | some (a,p)=>mB f d (acc++[a]) p
  else some (acc,p)
end
theorem dH {p:RS} {k:Nat} {s:ae} (h:p.sign k=s) (hs:s≠[]):p.i+k < p.l.length/\p.code=0:=by
 unfold RS.sign at h;split at h
 ·rename_i hc;refine ⟨Nat.lt_of_not_le fun hn=>?_,hc⟩;rw [List.getElem?_eq_none_iff.2 hn] at h;exact hs h.symm
 ·exact absurd h.symm hs
def RS.to (p q:RS):Prop:=q.l=p.l/\q.e=p.e/\q.i<=q.l.length/\p.i<=q.i
theorem RS.to.ok {p q:RS} (h:p.to q) (hp:p.ok):q.ok:=⟨h.2.2.1,by rw [h.1];exact hp.2⟩
theorem RS.to.trans {p q r:RS} (h:p.to q) (k:q.to r):p.to r:=⟨k.1.trans h.1,k.2.1.trans h.2.1,k.2.2.1,jV h.2.2.2 k.2.2.2⟩
theorem ll {p:RS} (hp:p.ok):p.to p:=⟨rfl,rfl,hp.1,aI _⟩
theorem l6 {p:RS} (hp:p.ok) (c a:Int):p.to (p.fail c a):=by
 unfold RS.fail;split
 ·exact ⟨rfl,rfl,hp.1,aI _⟩
 ·exact ll hp
theorem cX {p:RS} (h:p.i < p.l.length):p.to p.next:=⟨rfl,rfl,h,Nat.le_succ _⟩
theorem bL {p:RS} (hp:p.ok) {s:ae} (hs:s≠[]):p.to (p.aR s):=by
 unfold RS.aR;split
 ·rename_i h;exact cX (by have:=(dH h hs).1;omega)
 ·exact zfL
theorem fj {p:RS} (hp:p.ok):p.to p.name.2:=by
 unfold RS.name;split
 ·cases ht:p.l[p.i]? with
  | none=>exact zfL
  | some t =>
   simp only;have au:=(bB ht).1;split
   ·split
    ·exact zfL
    ·exact cX au
   ·exact zfL
 ·exact ll hp
theorem jh {p:RS} (hp:p.ok) (d:Nat):p.to (p.deep d):=by
 unfold RS.deep;split
 ·exact zfL
 ·exact ll hp
theorem dV {p:RS} {s:ae} (h:p.sign 0=s) (hs:s≠[]):p.to p.next:=cX (by have:=(dH h hs).1;omega)
theorem u4:∀ (f:Nat),(∀ j p t q,p.ok->mE f j p=some (t,q)->p.to q)/\(∀ d p l q,p.ok->mL f d p=some (l,q)->p.to q)/\(∀ d acc p l q,p.ok->td f d acc p=some (l,q)->p.to q)
 | 0=>⟨fun j p t q _ h=>by simp [mE] at h,fun d p l q _ h=>by simp [mL] at h,fun d acc p l q _ h=>by simp [td] at h⟩
 | f+1=>by
  obtain ⟨I,G,h3⟩:=u4 f;refine ⟨fun j p t q hp h=>?_,fun d p l q hp h=>?_,fun d acc p l q hp h=>?_⟩
  ·cases j with
   | expr d=>rw [mE] at h;exact (jh hp d).trans (I _ _ _ _ ((jh hp d).ok hp) h)
   | level k d =>
    rw [mE] at h;split at h
    ·exact I _ _ _ _ hp h
    ·split at h
     ·cases h
     ·rename_i out p' he;have:=I _ _ _ _ hp he;exact zcN
   | loop k d out =>
    rw [mE] at h;split at h
    ·split at h
     ·cases h
     ·rename_i t' ht;have hn:=cX (p:=p) (bB ht).1;split at h
      ·cases h
      ·exact zeX
    ·cases h;exact ll hp
   | operand d =>
    rw [mE] at h;have hd:=jh hp d;have dM:=hd.ok hp;refine hd.trans ?_;generalize p.deep d=p at *
    try simp only at h
    split at h
    ·split at h
     ·cases h;exact l6 dM _ _
     ·rename_i t' ht;have hn:=cX (p:=p) (bB ht).1;split at h
      ·cases h;exact hn
      ·split at h
       ·exact (fj dM).trans (I _ _ _ _ ((fj dM).ok dM) h)
       ·split at h
        ·split at h
         ·cases h
         ·rename_i a p' he
          cases h;exact hn.trans (I _ _ _ _ (hn.ok dM) he)
        ·split at h
         ·split at h
          ·cases h
          ·rename_i a p' he;have:=hn.trans (I _ _ _ _ (hn.ok dM) he)
           cases h;exact zbY
         ·cases h;exact l6 dM _ _
    ·cases h;exact l6 dM _ _
   | named a s d =>
    rw [mE] at h;split at h
    ·rename_i hs;have hn:=dV hs ar;split at h
     ·cases h
     ·rename_i a' p' he;have:=hn.trans (I _ _ _ _ (hn.ok hp) he)
      cases h;exact this.trans (bL (this.ok hp) ar)
    ·split at h
     ·rename_i hs;have hn:=dV hs ar;split at h
      ·cases h
      ·rename_i a' p' he
       cases h;exact hn.trans (G _ _ _ _ (hn.ok hp) he)
     ·cases h;exact ll hp
  ·rw [mL] at h;split at h
   ·cases h;exact bL hp ar
   ·split at h
    ·cases h
    ·rename_i a p' he;have:=I _ _ _ _ hp he;exact this.trans (h3 _ _ _ _ _ (this.ok hp) h)
  ·rw [td] at h;split at h
   ·rename_i hs;have hn:=dV hs ar;split at h
    ·cases h
    ·rename_i a p' he;have:=hn.trans (I _ _ _ _ (hn.ok hp) he);exact this.trans (h3 _ _ _ _ _ (this.ok hp) h)
   ·cases h;exact bL hp ar
def small (c:UInt8):Bool:=decide ((97:Int)<=(c.toNat:Int))&&decide ((c.toNat:Int)<=122)
def eV (c:UInt8):Bool:=decide ((48:Int)<=(c.toNat:Int))&&decide ((c.toNat:Int)<=57)
def ff (c:UInt8):Bool:=small c || (decide ((65:Int)<=(c.toNat:Int))&&decide ((c.toNat:Int)<=90)) || eV c || ((c.toNat:Int)==95)
def fY (c:UInt8):Bool:=((c.toNat:Int)==32) || ((c.toNat:Int)==9) || ((c.toNat:Int)==10) || ((c.toNat:Int)==13)
def cv (s:ae) (at_:Nat) (t:ae):Bool:=decide (at_+t.length<=s.length)&&((s.take (at_+t.length)).drop at_==t)
def gH (s:ae):Nat->Nat->Nat
 | 0,e=>e
 | f+1,e=>if e < s.length/\cv s e [42,47]=false then gH s f (e+1) else e
def skip (s:ae):Nat->Nat->Nat × Int
 | 0,at_=>(at_,-1)
 | f+1,at_=>match s[at_]? with
  | none=>(at_,-1)
  | some c =>
   if fY c=true then skip s f (at_+1)
   else if cv s at_ [47,42]=true then
    let e:=gH s s.length (at_+2)
    if s.length<=e then (at_,(at_:Int)) else skip s f (e+2)
   else (at_,-1)
theorem mA {s t:ae} {a:Nat} (h:cv s a t=true):a+t.length<=s.length:=by
 simp only [cv,aK,decide_eq_true_eq] at h;exact h.1
theorem vT (s:ae):∀ (f e:Nat),e<=s.length->e<=gH s f e/\gH s f e<=s.length
 | 0,e,h=>⟨aI _,h⟩
 | f+1,e,h=>by
  rw [gH];split
  ·rename_i hc;have:=vT s f (e+1) hc.1;omega
  ·exact zfl
theorem uZ (s:ae):∀ (f e:Nat),e<=s.length->s.length<=f+e->¬ (gH s f e < s.length/\cv s (gH s f e) [42,47]=false)
 | 0,e,h,hf=>by rw [gH];omega
 | f+1,e,h,hf=>by
  rw [gH];split
  ·rename_i hc;exact uZ s f (e+1) hc.1 av
  ·assumption
def number (s:ae):Nat->Int->Nat->Int × Nat
 | 0,n,a=>(n,a)
 | f+1,n,a=>match s[a]? with
  | none=>(n,a)
  | some c=>if eV c=true then number s f (if n<=2147483647 then n * 10+((c.toNat:Int) - 48) else n) (a+1) else (n,a)
def run (s:ae) (p:UInt8->Bool):Nat->Nat->Nat
 | 0,a=>a
 | f+1,a=>match s[a]? with
  | none=>a
  | some c=>if p c=true then run s p f (a+1) else a
def words:List ae:=[[105,110,116],[118,97,114],[102,117,110,99],[105,102],[101,108,115,101],[119,104,105,108,101],[114,101,116,117,114,110]]
def cr:List ae:=[[124,124],[38,38],[61,61],[33,61],[60,61],[62,61],[60,60],[62,62],[40],[41],[123],[125],[91],[93],[44],[59],[61],[60],[62],[43],[45],[42],[47],[37],[38],[124],[94],[33],[126]]
def gI (s:ae) (a:Nat):Nat:=run s ff (s.length+1) a
def jq (s:ae) (a:Nat):ae:=(s.take (gI s a)).drop a
def ia (s:ae) (a:Nat) (c:UInt8):Tok × Nat :=
 if eV c=true then (⟨1,(number s (s.length+1) 0 a).1,[],a⟩,(number s (s.length+1) 0 a).2)
 else if small c=true then (⟨if words.contains (jq s a)=true then 3 else 2,0,jq s a,a⟩,gI s a)
 else match cr.find? (cv s a) with
  | some x=>(⟨3,0,x,a⟩,a+x.length)
  | none=>(⟨0,0,[],0⟩,a)
def tY (s:ae):Nat->Nat->List Tok->Option (List Tok)
 | 0,_,_=>none
 | f+1,a,acc=>match s[a]? with
  | none=>some acc
  | some c=>tY s f (skip s (s.length+1) (ia s a c).2).1 (acc++[(ia s a c).1])
def iU (s:ae):Option (List Tok):=tY s (s.length+2) (skip s (s.length+1) 0).1 []
def word (s:ae):Bool:=s.all ff&&(match s with | []=>false | c::_=>small c)
def bT (s:ae):Bool:=word s&&decide (s.length<=12)&&!(words.contains s)
theorem vX (s:ae):∀ (f:Nat) (n:Int) (a:Nat),a<=s.length->s.length < f+a->(∀ c,s[(number s f n a).2]?=some c->eV c=false)/\a<=(number s f n a).2/\(number s f n a).2<=s.length
 | 0,n,a,I,G=>by omega
 | f+1,n,a,I,G=>by
  rw [number]
  cases hc:s[a]? with
  | none=>exact ⟨fun c h=>(by rw [hc] at h;cases h),aI _,I⟩
  | some c =>
   simp only;have au:=(bB hc).1
   by_cases hd:eV c=true
   ·rw [ah hd];obtain ⟨h3,h4,h5⟩:=vX s f (if n<=2147483647 then n * 10+((c.toNat:Int) - 48) else n) (a+1) av av;exact ⟨h3,by omega,h5⟩
   ·exact zd7
theorem rB (s:ae) (p:UInt8->Bool):∀ (f:Nat) (a:Nat),a<=s.length->s.length < f+a->(∀ c,s[run s p f a]?=some c->p c=false)/\a<=run s p f a/\run s p f a<=s.length
 | 0,a,I,G=>by omega
 | f+1,a,I,G=>by
  rw [run]
  cases hc:s[a]? with
  | none=>exact ⟨fun c h=>(by rw [hc] at h;cases h),aI _,I⟩
  | some c =>
   simp only;have au:=(bB hc).1
   by_cases hd:p c=true
   ·rw [ah hd];obtain ⟨h3,h4,h5⟩:=rB s p f (a+1) av av;exact ⟨h3,by omega,h5⟩
   ·exact zd7
theorem wq (s:ae):∀ (f a:Nat),a<=s.length->a<=(skip s f a).1/\(skip s f a).1<=s.length
 | 0,a,h=>⟨aI _,h⟩
 | f+1,a,h=>by
  rw [skip]
  cases hc:s[a]? with
  | none=>exact zfl
  | some c =>
   simp only;have au:=(bB hc).1;split
   ·have:=wq s f (a+1) au;omega
   ·split
    ·rename_i hb;have hb:=mA hb;have hb:a+2<=s.length:=hb;have I:=vT s s.length (a+2) hb;have G:=uZ s s.length (a+2) hb av;split
     ·exact zfl
     ·rename_i hn
      have h3:cv s (gH s s.length (a+2)) [42,47]=true:=by
       cases rF:cv s (gH s s.length (a+2)) [42,47] with
       | true=>rfl
       | false=>exact absurd ⟨by omega,rF⟩ G
      have h3:=mA h3;have h3:gH s s.length (a+2)+2<=s.length:=h3;have:=wq s f (gH s s.length (a+2)+2) h3;omega
    ·exact zfl
theorem gD {d:Nat} {p q:RS} {t:T} (hp:p.ok) (h:mX d p=some (t,q)):p.to q:=(u4 _).1 _ _ _ _ hp h
theorem sq:∀ (f:Nat),(∀ j p t q,p.ok->(∀ a d,j=.cond a d->p.i < p.l.length)->mS f j p=some (t,q)->p.to q)/\(∀ d acc p l q,p.ok->mB f d acc p=some (l,q)->p.to q)
 | 0=>⟨fun j p t q _ _ h=>by simp [mS] at h,fun d acc p l q _ h=>by simp [mB] at h⟩
 | f+1=>by
  obtain ⟨I,G⟩:=sq f
  have fu:∀ d (p:RS) t q,p.ok->mS f (.block d) p=some (t,q)->p.to q:=fun d p t q hp h=>I _ _ _ _ hp (fun a d' h=>by cases h) h
  refine ⟨fun j p t q hp qD h=>?_,fun d acc p l q hp h=>?_⟩
  ·cases j with
   | block d =>
    rw [mS] at h;have hd:=jh hp d;refine hd.trans ?_;have dM:=hd.ok hp;generalize p.deep d=p at *
    try simp only at h
    have hm:=bL dM (s:=[123]) ar;split at h
    ·cases h
    ·rename_i l p' he;have:=hm.trans (G _ _ _ _ _ (hm.ok dM) he)
     cases h;exact zbY
   | stmt d =>
    rw [mS] at h;have hd:=jh hp d;refine hd.trans ?_;have dM:=hd.ok hp;generalize p.deep d=p at *
    try simp only at h
    split at h
    ·rename_i hs;have hn:=dV hs ar;have dF:=hn.trans (fj (hn.ok dM));have fM:=dF.trans (bL (dF.ok dM) (s:=[61]) ar);split at h
     ·cases h
     ·rename_i e p' he;have:=fM.trans (gD (fM.ok dM) he)
      cases h;exact zbY
    ·split at h
     ·rename_i hs;refine I _ _ _ _ dM (fun a d' _=>?_) h
      rcases hs with hs | hs
      ·exact zer
      ·exact zer
     ·split at h
      ·rename_i hs;have hn:=dV hs ar;split at h
       ·cases h
       ·rename_i e p' he;have:=hn.trans (gD (hn.ok dM) he)
        cases h;exact zbY
      ·split at h
       ·have dF:=fj dM;have fM:=dF.trans (bL (dF.ok dM) (s:=[61]) ar);split at h
        ·cases h
        ·rename_i e p' he;have:=fM.trans (gD (fM.ok dM) he)
         cases h;exact zbY
       ·split at h
        ·cases h
        ·rename_i e p' he;have hx:=gD dM he;split at h
         ·rename_i hs;have hn:=hx.trans (dV hs.2.2 ar);split at h
          ·rename_i a r v p2 hk oU;have:=hn.trans (gD (hn.ok dM) oU)
           cases h;exact zbY
          ·cases h
         ·cases h;exact hx.trans (bL (hx.ok dM) ar)
   | cond a d =>
    rw [mS] at h;have hn:=cX (qD a d rfl);have hm:=hn.trans (bL (hn.ok hp) (s:=[40]) ar)
    try simp only at h
    split at h
    ·cases h
    ·rename_i e p' he;have hx:=hm.trans (gD (hm.ok hp) he);have py:=hx.trans (bL (hx.ok hp) (s:=[41]) ar);split at h
     ·cases h
     ·rename_i b p2 hb;have eM:=py.trans (fu _ _ _ _ (py.ok hp) hb);split at h
      ·rename_i hs;have cx:=eM.trans (dV hs.2 ar);split at h
       ·cases h
       ·rename_i b2 p3 wM
        cases h;exact cx.trans (fu _ _ _ _ (cx.ok hp) wM)
      ·cases h;exact eM
  ·rw [mB] at h;split at h
   ·split at h
    ·cases h
    ·rename_i a p' he;have:=I _ _ _ _ hp (fun a d' h=>by cases h) he;exact zd0
   ·cases h;exact ll hp
structure Fn where
 name:ae
 params:List ae
 body:Int
structure Src where
 globals:List ae
 arrays:List Ar
 fns:List Fn
 nodes:List Nd
def qi (k:Int):Bool:=decide ((1:Int)<=k)&&decide (k<=6)
def kl (k:Int):Bool:=decide ((7:Int)<=k)&&decide (k<=13)
def bP (from_:Nat):Nat->List T->Bool
 | _,[]=>true
 | i,t::r=>(if i < from_ then qi t.n.kind else t.n.kind==14)&&bP from_ (i+1) r
def jc (s:ae):Bool:=levels.any fun l=>l.contains s
mutual
def sub (nodes:List Nd):Nat->Nat->Option T
 | 0,_=>none
 | f+1,a=>match nodes[a]? with
  | none=>none
  | some n=>match rQ nodes f n.kids [] with
   | none=>none
   | some l=>some (.mk n l)
def rQ (nodes:List Nd):Nat->List Int->List T->Option (List T)
 | _,[],acc=>some acc
 | 0,_::_,_=>none
 | f+1,k::r,acc=>if k < 0 then none else match sub nodes f k.toNat with
  | none=>none
  | some t=>rQ nodes f r (acc++[t])
end
mutual
def rM (nodes:List Nd):Nat->Nat->Nat->Option Int
 | 0,_,_=>none
 | f+1,a,d=>if nodes.length<=a\/d > 800 then some (-1) else match nodes[a]? with
  | none=>none
  | some n=>qP nodes f n.kids (a+1) d
def qP (nodes:List Nd):Nat->List Int->Int->Nat->Option Int
 | _,[],next,_=>some next
 | 0,_::_,_,_=>none
 | f+1,k::r,next,d=>if k=next then match rM nodes f k.toNat (d+1) with
   | none=>none
   | some e=>if e < 0 then some (-1) else qP nodes f r e d
  else some (-1)
end
def own (n:Nd) (k:Nat) (kd:Nat->Bool) (bl:Bool):Bool :=
 if decide (n.at_ < 0) then false else if n.kind != 1&&n.n != 0 then false
 else if n.kind==1 then decide ((0:Int)<=n.n)&&(decide (n.n<=2147483647)&&(n.s==[]&&(k:Int)==0))
 else if n.kind==2 then bT n.s&&(k:Int)==0
 else if n.kind==3 || n.kind==7 || n.kind==13 then bT n.s&&((k:Int)==1&&kd 1)
 else if n.kind==4 then bT n.s&&kd k
 else if n.kind==5 then (n.s==[45] || n.s==[33] || n.s==[126])&&((k:Int)==1&&kd 1)
 else if n.kind==6 then jc n.s&&((k:Int)==2&&kd 2)
 else if n.kind==8 then bT n.s&&((k:Int)==2&&kd 2)
 else if n.kind==9 then n.s==[]&&(((k:Int)==2 || (k:Int)==3)&&kd 1)
 else if n.kind==10 then n.s==[]&&((k:Int)==2&&kd 1)
 else if n.kind==11 || n.kind==12 then n.s==[]&&((k:Int)==1&&kd 1)
 else if n.kind==14 then bl&&n.s==[]
 else false
def cQ (t:T):Bool:=own t.n t.kids.length (fun m=>bP m 0 t.kids) (t.kids.all fun x=>kl x.n.kind)
mutual
def eo:T->Bool
 | .mk n l=>dd l&&cQ (.mk n l)
def dd:List T->Bool
 | []=>true
 | t::r=>eo t&&dd r
end
mutual
def KU:T->Prop
 | .mk n l=>n.s.length<=1099511627776/\l.length<=1099511627776/\Aq l
def Aq:List T->Prop
 | []=>True
 | t::r=>KU t/\Aq r
end
theorem KX:∀ {l:List T} {t:T},Aq l->t∈l->KU t
 | [],_,_,h=>by cases h
 | a::r,t,h,hm=>by
  rw [Aq] at h
  rcases List.mem_cons.mp hm with rfl | hm
  ·exact h.1
  ·exact KX h.2 hm
theorem KV:∀ {l:List T} {t:T},Aq l->KU t->Aq (l++[t])
 | [],t,_,ht=>⟨ht,trivial⟩
 | a::r,t,h,ht=>by
  rw [Aq] at h;exact ⟨h.1,KV h.2 ht⟩
theorem abm {nodes:List Nd} (hk:∀ n∈nodes,n.s.length<=1099511627776/\n.kids.length<=1099511627776):∀ f:Nat,(∀ a t,sub nodes f a=some t->KU t)/\(∀ ks acc l,rQ nodes f ks acc=some l->acc.length+ks.length=l.length/\(Aq acc->Aq l)):=by
 intro f
 induction f with
 | zero =>
  refine ⟨fun a t h=>by simp [sub] at h,fun ks acc l h=>?_⟩
  cases ks with
  | nil=>rw [rQ] at h;cases h;exact ⟨by simp,id⟩
  | cons k r=>simp [rQ] at h
 | succ f ih =>
  constructor
  ·intro a t h;rw [sub] at h
   cases hn:nodes[a]? with
   | none=>exact zeh
   | some n =>
   rw [hn] at h;simp only at h
   cases hs:rQ nodes f n.kids [] with
   | none=>rw [hs] at h;cases h
   | some l =>
   rw [hs] at h;cases h;have hi:=ih.2 _ _ _ hs;have hb:=hk n (bo hn);exact ⟨hb.1,by have:=hi.1;simp at this;omega,hi.2 trivial⟩
  ·intro ks acc l h
   cases ks with
   | nil=>rw [rQ] at h;cases h;exact ⟨by simp,id⟩
   | cons k r =>
    rw [rQ] at h
    by_cases Ey:k < 0
    ·rw [ah Ey] at h;cases h
    rw [ab Ey] at h
    cases hs:sub nodes f k.toNat with
    | none=>rw [hs] at h;cases h
    | some t =>
    rw [hs] at h;simp only at h;have G:=ih.2 _ _ _ h;refine ⟨by have:=G.1;simp at this |-;omega,fun ha=>G.2 (KV ha (ih.1 _ _ hs))⟩
def dA:List ae->Bool:=fun l=>l.all bT
def rL (a:Ar):Bool:=bT a.name&&!(decide (a.size < 0))&&!(decide (2147483647 < a.size))
def fN (nodes:List Nd):Nat:=2 * nodes.length+4
def jA (nodes:List Nd):List Fn->Int->Option (Option Int)
 | [],next=>some (some next)
 | f::r,next=>match rM nodes (fN nodes) next.toNat 0 with
  | none=>none
  | some e=>if f.body≠next\/bT f.name=false\/e < 0 then some none else if dA f.params=false then some none else match sub nodes (fN nodes) next.toNat with
   | none=>none
   | some t=>if t.n.kind≠14\/eo t=false then some none else jA nodes r e
def rD (p:Src):Option Bool :=
 if dA p.globals=false then some false else if p.arrays.all rL=false then some false else match jA p.nodes p.fns 0 with
  | none=>none
  | some none=>some false
  | some (some next)=>some (next==(p.nodes.length:Int)&&decide (next<=800))
end Go.Sp
namespace Go.Xp
theorem F9 {e:Int} {s:ae} {ts r:List Tok} (h:aR e s ts=.ok r):r=ts.tail/\sign ts 0=s:=by
 unfold aR at h;split at h
 ·cases h;exact ⟨rfl,by assumption⟩
 ·cases h
theorem Ad {e:Int} {s:ae} {ts r:List Tok} (h:aR e s ts=.ok r):r.length<=ts.length:=by
 rw [(F9 h).1,List.length_tail];omega
theorem Cy {e:Int} {s:ae} {ts r:List Tok} (hs:s≠[]) (h:aR e s ts=.ok r):r.length < ts.length:=by
 obtain ⟨I,G⟩:=F9 h;rw [I,List.length_tail]
 cases ts with
 | nil=>exact absurd G.symm hs
 | cons=>simp
theorem dH {s:ae} {ts:List Tok} (hs:s≠[]) (h:sign ts 0=s):ts.tail.length < ts.length:=by
 cases ts with
 | nil=>exact absurd h.symm hs
 | cons=>simp
theorem tf {e:Int} {s:ae} {ts:List Tok} {x:Er} (h:aR e s ts=.error x):x≠bx:=by
 unfold aR at h;split at h
 ·cases h
 ·cases h;intro h0;cases h0
theorem Kp {e:Int} {s:ae} {ts r:List Tok} (h:name e ts=.ok (s,r)):r.length < ts.length:=by
 unfold name at h;split at h
 ·cases h
 ·split at h
  ·split at h
   ·cases h
   ·cases h;simp
  ·cases h
theorem NK {e:Int} {ts:List Tok} {x:Er} (h:name e ts=.error x):x≠bx:=by
 unfold name at h;split at h
 ·cases h;intro h0;cases h0
 ·split at h
  ·split at h <;> cases h;intro h0;cases h0
  ·cases h;intro h0;cases h0
def rO:xv->Nat->Nat
 | .operand _,n=>20 * n+1
 | .loop _ _ _,n=>20 * n+1
 | .level k _,n=>20 * n+2+(9 - k)
 | .expr _,n=>20 * n+12
def Ah (acc:List T) (n:Nat):Nat:=match acc with | []=>20 * n+14 | _=>20 * n+1
def Pp:xv->Prop
 | .level k _=>k<=9
 | .loop k _ _=>k < 9
 | _=>True
def good (e:Int) (f:Nat) (j:xv) (ts:List Tok):Prop :=
 Pp j->(∀ t r,rd e f j ts=.ok (t,r)->r.length<=ts.length)/\(rO j ts.length<=f->rd e f j ts≠.error bx)
def WM (e:Int) (f deep:Nat) (acc:List T) (ts:List Tok):Prop :=
 (∀ t r,rd.args e f deep acc ts=.ok (t,r)->r.length<=ts.length)/\(Ah acc ts.length<=f->rd.args e f deep acc ts≠.error bx)
theorem er7 {a:Int}:((7,a):Er)≠bx:=by intro h;cases h
theorem er9 {a:Int}:((9,a):Er)≠bx:=by intro h;cases h
theorem Gd (e:Int):∀ f,(∀ j ts,good e f j ts)/\(∀ deep acc ts,WM e f deep acc ts)
 | 0=>by
  refine ⟨fun j ts _=>⟨fun t r h=>?_,fun h=>?_⟩,fun deep acc ts=>⟨fun t r h=>?_,fun h=>?_⟩⟩
  ·rw [rd] at h;cases h
  ·cases j <;> simp only [rO] at h <;> omega
  ·rw [rd.args] at h;cases h
  ·unfold Ah at h;split at h <;> omega
 | f+1=>by
  obtain ⟨ih,Bz⟩:=Gd e f;constructor
  ·intro j ts hj
   cases j with
   | expr deep =>
    obtain ⟨I,G⟩:=ih (.level 0 (deep+1)) ts (aS _);rw [rd];split
    ·exact zbg
    ·exact zfV
   | level k deep =>
    have hj:k<=9:=hj;rw [rd];split
    ·obtain ⟨I,G⟩:=ih (.operand deep) ts trivial;exact zfV
    ·obtain ⟨I,G⟩:=ih (.level (k+1) deep) ts (by show k+1<=9;omega);split
     ·rename_i x hx;exact ⟨fun t r h=>zgg,fun h h0=>G (by simp only [rO] at h |-;omega) (hx.trans h0)⟩
     ·rename_i out lz hx;obtain ⟨h3,h4⟩:=ih (.loop k deep out) lz (by show k < 9;omega);have:=I _ _ hx;exact ⟨fun t r h=>jV (h3 t r h) this,fun h=>h4 (by simp only [rO] at h |-;omega)⟩
   | loop k deep out =>
    have hj:k < 9:=hj
    cases ts with
    | nil=>rw [rd];exact zeN
    | cons t0 r0 =>
     rw [rd];split
     ·obtain ⟨I,G⟩:=ih (.level (k+1) deep) r0 (by show k+1<=9;omega);split
      ·exact zay
      ·rename_i b r hx;obtain ⟨h3,h4⟩:=ih (.loop k deep (one 6 t0.at_ t0.s [out,b])) r hj;have:=I _ _ hx;exact ⟨fun t r h=>by have:=h3 t r h;simp only [length_cons];omega,fun h=>h4 (by simp only [rO,length_cons] at h |-;omega)⟩
     ·exact zeN
   | operand deep =>
    cases ts with
    | nil=>rw [rd];split <;> exact ⟨fun t r h=>zgg,fun _ h=>zgg⟩
    | cons t0 r0 =>
    rw [rd];split
    ·exact zbg
    split
    ·split
     ·obtain ⟨I,G⟩:=ih (.operand (deep+1)) r0 trivial;split
      ·exact zay
      ·rename_i a r hx;have:=I _ _ hx;exact zaF
     split
     ·obtain ⟨I,G⟩:=ih (.expr (deep+1)) r0 trivial;split
      ·exact zay
      ·rename_i a r hx;have:=I _ _ hx;split
       ·exact zaK
       ·rename_i r' hm;have:=Ad hm;exact zaF
     ·exact zbg
    split
    ·exact zfr
    split
    ·rename_i x hm;exact ⟨fun t r h=>zgg,fun _ h=>NK hm zhf⟩
    ·rename_i s r hn;have hl:=Kp hn;simp only [length_cons] at hl
     have au:r.tail.length<=r.length:=by simp
     split
     ·obtain ⟨I,G⟩:=ih (.expr (deep+1)) r.tail trivial;split
      ·exact zay
      ·rename_i a r' hx;have:=I _ _ hx;split
       ·exact zaK
       ·rename_i r'' hm;have:=Ad hm;exact zaF
     split
     ·obtain ⟨I,G⟩:=Bz (deep+1) [] r.tail;split
      ·rename_i x hx;exact ⟨fun t r h=>zgg,fun h h0=>G (by simp only [rO,Ah,length_cons] at h |-;omega) (hx.trans (by cases h0;rfl))⟩
      ·rename_i a r' hx;have:=I _ _ hx;exact zaF
     ·exact zaF
  ·intro deep acc ts;unfold WM;rw [rd.args];split
   ·exact zfr
   ·by_cases mD:acc=[]
    ·subst mD;simp only [if_true];obtain ⟨I,G⟩:=ih (.expr deep) ts trivial;split
     ·rename_i x hx;exact ⟨fun t r h=>zgg,fun h h0=>G (by simp only [rO,Ah] at h |-;omega) (hx.trans (by cases h0;rfl))⟩
     ·rename_i a r hx;have:=I _ _ hx;obtain ⟨h3,h4⟩:=Bz deep ([]++[a]) r;exact ⟨fun t r h=>by have:=h3 t r h;omega,fun h=>h4 (by simp only [nil_append,Ah] at h |-;omega)⟩
    ·rw [ab mD]
     have EB:∀ n,Ah acc n=20 * n+1:=by cases acc with | nil=>exact absurd rfl mD | cons=>exact fun _=>rfl
     split
     ·exact zaK
     ·rename_i lz hm;have au:=Cy ar hm;obtain ⟨I,G⟩:=ih (.expr deep) lz trivial;split
      ·rename_i x hx;exact ⟨fun t r h=>zgg,fun h h0=>G (by simp only [rO,EB] at h |-;omega) (hx.trans (by cases h0;rfl))⟩
      ·rename_i a r hx;have:=I _ _ hx;obtain ⟨h3,h4⟩:=Bz deep (acc++[a]) r
       have adw:Ah (acc++[a]) r.length=20 * r.length+1:=by
        cases acc with
        | nil=>exact absurd rfl mD
        | cons=>rfl
       exact ⟨fun t r h=>by have:=h3 t r h;omega,fun h=>h4 (by rw [adw] ;simp only [EB] at h;omega)⟩
theorem aa7 {e:Int} {f:Nat} {j:xv} {ts:List Tok} {t:T} {r:List Tok} (hj:Pp j) (h:rd e f j ts=.ok (t,r)):r.length<=ts.length:=((Gd e f).1 j ts hj).1 t r h
theorem CB {e:Int} {f:Nat} {j:xv} {ts:List Tok} (hj:Pp j) (h:rO j ts.length<=f):rd e f j ts≠.error bx:=((Gd e f).1 j ts hj).2 h
theorem G3 {e:Int} {deep:Nat} {ts:List Tok}:expr e deep ts≠.error bx:=CB (j:=.expr deep) trivial (by simp only [rO,p9];omega)
theorem Dt {e:Int} {deep:Nat} {ts:List Tok} {t:T} {r:List Tok} (h:expr e deep ts=.ok (t,r)):r.length<=ts.length:=aa7 (j:=.expr deep) trivial h
theorem DG {e:Int} {deep:Nat} {a b:ae} {ts r:List Tok} {t:T} (ha:a≠[]) (h:inner e deep a b ts=.ok (t,r)):r.length < ts.length:=by
 unfold inner at h;split at h
 ·cases h
 ·rename_i t1 I;split at h
  ·cases h
  ·rename_i a1 t2 G;split at h
   ·cases h
   ·rename_i t3 h3;cases h;have:=Cy ha I;have:=Dt G;have:=Ad h3;omega
theorem DF {e:Int} {deep:Nat} {a b:ae} {ts:List Tok} {x:Er} (h:inner e deep a b ts=.error x):x≠bx:=by
 unfold inner at h;split at h
 ·rename_i I;cases h;exact tf I
 ·split at h
  ·rename_i x2 G;cases h;intro h0;exact G3 (G.trans zgj)
  ·split at h
   ·rename_i h3;cases h;exact tf h3
   ·cases h
theorem KR {e:Int} {deep:Nat} {ts r:List Tok} {t:ae × T} (h:nZ e deep ts=.ok (t,r)):r.length < ts.length:=by
 unfold nZ at h;split at h
 ·cases h
 ·rename_i s t1 I;split at h
  ·cases h
  ·rename_i a t2 G;cases h;have:=Kp I;have:=DG ar G;omega
theorem KQ {e:Int} {deep:Nat} {ts:List Tok} {x:Er} (h:nZ e deep ts=.error x):x≠bx:=by
 unfold nZ at h;split at h
 ·rename_i I;cases h;exact NK I
 ·split at h
  ·rename_i G;cases h;exact DF G
  ·cases h
theorem Ds {e:Int} {deep:Nat} {ts:List Tok} {x:Er} (h:expr e deep ts=.error x):x≠bx:=fun h0=>G3 (h.trans zgj)
theorem Tr {e:Int} {deep:Nat} {ts r:List Tok} {t:T} (h:simple e deep ts=.ok (t,r)):r.length < ts.length:=by
 unfold simple at h;split at h
 ·exact zfs
 ·rename_i t0 r0;split at h
  ·split at h
   ·cases h
   ·rename_i s a t1 I;cases h;exact KR I
  ·split at h
   ·cases h
   ·rename_i a t1 I;have:=Dt I;split at h
    ·split at h
     ·cases h
     ·rename_i v t2 G;cases h;have:=DG ar G;omega
    ·split at h
     ·cases h
     ·rename_i t2 G;cases h;have:=Cy ar G;omega
theorem Tq {e:Int} {deep:Nat} {ts:List Tok} {x:Er} (h:simple e deep ts=.error x):x≠bx:=by
 unfold simple at h;split at h
 ·split at h
  ·rename_i I;cases h;exact Ds I
  ·cases h;exact er7
 ·split at h
  ·split at h
   ·rename_i I;cases h;exact KQ I
   ·cases h
  ·split at h
   ·rename_i I;cases h;exact Ds I
   ·split at h
    ·split at h
     ·rename_i G;cases h;exact DF G
     ·cases h
    ·split at h
     ·rename_i G;cases h;exact tf G
     ·cases h
def WO (e:Int) (f:Nat) (j:vE) (ts:List Tok):Prop :=
 (∀ t r,rs e f j ts=.ok (t,r)->r.length < ts.length)/\(3 * ts.length+1<=f->rs e f j ts≠.error bx)
def WN (e:Int) (f deep:Nat) (acc:List T) (ts:List Tok):Prop :=
 (∀ t r,rs.body e f deep acc ts=.ok (t,r)->r.length < ts.length)/\(3 * ts.length+2<=f->rs.body e f deep acc ts≠.error bx)
theorem Gf (e:Int):∀ f,(∀ j ts,WO e f j ts)/\(∀ deep acc ts,WN e f deep acc ts)
 | 0=>by
  refine ⟨fun j ts=>⟨fun t r h=>?_,fun h=>by omega⟩,fun deep acc ts=>⟨fun t r h=>?_,fun h=>by omega⟩⟩
  ·rw [rs] at h;cases h
  ·rw [rs.body] at h;cases h
 | f+1=>by
  obtain ⟨ih,Bz⟩:=Gf e f;constructor
  ·intro j ts;unfold WO
   cases j with
   | block deep =>
    rw [rs];split
    ·exact zbg
    ·split
     ·exact zaK
     ·rename_i r0 hm;have h0:=Cy ar hm;obtain ⟨I,G⟩:=Bz (deep+1) [] r0;split
      ·exact zdq
      ·rename_i l r hx;have:=I _ _ hx;exact zaO
   | stmt deep =>
    rw [rs];split
    ·exact zbg
    ·simp only;split
     ·rename_i hv;have h0:=dH ar hv;split
      ·rename_i x hx;exact ⟨fun t r h=>zgg,fun _ h=>KQ hx zhf⟩
      ·rename_i s a t1 hx;have:=KR hx;exact zaO
     split
     ·rename_i hv
      have h0:ts.tail.length < ts.length:=by
       rcases hv with hv | hv <;> exact dH ar hv
      split
      ·rename_i x hx;exact ⟨fun t r h=>zgg,fun _ h=>DF hx zhf⟩
      ·rename_i c r1 hx;have hc:=DG ar hx;obtain ⟨I,G⟩:=ih (.block (deep+1)) r1;split
       ·rename_i x Nl;exact ⟨fun t r h=>zgg,fun h h0=>G av (Nl.trans h0)⟩
       ·rename_i b r2 Nl;have hb:=I _ _ Nl;split
        ·split
         ·obtain ⟨h3,h4⟩:=ih (.block (deep+1)) r2.tail
          have ht:r2.tail.length<=r2.length:=by simp
          split
          ·rename_i x Sh;exact ⟨fun t r h=>zgg,fun h h0=>h4 av (Sh.trans h0)⟩
          ·rename_i b2 r3 Sh;have:=h3 _ _ Sh;exact zaO
         ·exact zaO
        ·exact zaO
     split
     ·rename_i hv;have h0:=dH ar hv;split
      ·rename_i x hx;exact ⟨fun t r h=>zgg,fun _ h=>Ds hx zhf⟩
      ·rename_i a r1 hx;have:=Dt hx;split
       ·exact zaK
       ·rename_i r2 hm;have:=Ad hm;exact zaO
     ·exact ⟨fun t r h=>Tr h,fun _ h=>Tq h rfl⟩
  ·intro deep acc ts;unfold WN;rw [rs.body];split
   ·rename_i hv;have h0:=dH ar hv;exact ⟨fun t r h=>(by cases h;exact h0),fun _ h=>zgg⟩
   ·obtain ⟨I,G⟩:=ih (.stmt deep) ts;split
    ·exact zdq
    ·rename_i a r hx;have:=I _ _ hx;obtain ⟨h3,h4⟩:=Bz deep (acc++[a]) r;exact ⟨fun t r h=>by have:=h3 t r h;omega,fun h=>h4 av⟩
theorem aa9 {e:Int} {f:Nat} {j:vE} {ts:List Tok} {t:T} {r:List Tok} (h:rs e f j ts=.ok (t,r)):r.length < ts.length:=((Gf e f).1 j ts).1 t r h
theorem zz {e:Int} {deep:Nat} {ts:List Tok}:block e deep ts≠.error bx:=((Gf e _).1 (.block deep) ts).2 (by simp only [p9];omega)
theorem acO {e:Int} {deep:Nat} {ts:List Tok} {t:T} {r:List Tok} (h:block e deep ts=.ok (t,r)):r.length < ts.length:=aa9 h
end Go.Xp
namespace Go.Sp
open Go.Xp
structure On (p:RS) (ts:List Tok):Prop where
 code:p.code=0
 le:p.i<=p.l.length
 rest:p.l.drop p.i=ts
 kinds:∀ t∈p.l,t.kind=1\/t.kind=2\/t.kind=3
def cE (p q:RS):Except Er (List Tok)->Prop
 | .ok r=>On q r/\q.l=p.l/\q.e=p.e
 | .error x=>q.code=x.1/\x.1≠0/\q.at_=x.2/\q.l=p.l/\q.e=p.e
def lO {α:Type} (p q:RS) (t:α):Rd α->Prop
 | .ok (t',r)=>t=t'/\cE p q (.ok r)
 | .error x=>cE p q (.error x)
section
variable {p q q':RS} {ts r:List Tok} {x:Er}
theorem cE.err (h:cE p q (.error x)):q.code≠0:=by rw [h.1];exact h.2.1
theorem cE.tr {y:Except Er (List Tok)} (h:cE p q (.ok r)) (k:cE q q' y):cE p q' y:=by
 obtain ⟨_,I,G⟩:=h
 cases y with
 | ok r=>exact ⟨k.1,k.2.1.trans I,k.2.2.trans G⟩
 | error x=>exact ⟨k.1,k.2.1,k.2.2.1,k.2.2.2.1.trans I,k.2.2.2.2.trans G⟩
theorem lO.tr {α:Type} {t:α} {y:Rd α} (h:cE p q (.ok r)) (k:lO q q' t y):lO p q' t y:=by
 cases y with
 | ok r=>obtain ⟨t',r⟩:=r;exact ⟨k.1,h.tr k.2⟩
 | error x=>exact h.tr (y:=.error x) k
theorem On.self (h:On p ts):cE p p (.ok ts):=⟨h,rfl,rfl⟩
theorem On.at (h:On p ts) (k:Nat):p.l[p.i+k]?=ts[k]?:=by rw [<-h.rest,List.getElem?_drop]
theorem On.sign (h:On p ts) (k:Nat):p.sign k=Go.Xp.sign ts k:=by
 unfold RS.sign Go.Xp.sign;rw [ah h.code,h.at]
 all_goals (cases ts[k]? <;> rfl)
theorem On.place (h:On p ts):p.place=Go.Xp.place p.e ts:=by
 have h0:=h.at 0;unfold RS.place;rw [Nat.add_zero] at h0;rw [h0]
 cases ts with
 | nil=>rfl
 | cons t r=>rfl
theorem On.next {t:Tok} (h:On p (t::r)):cE p p.next (.ok r):=by
 have I:p.i < p.l.length:=by
  have:=congrArg List.length h.rest;simp at this;omega
 refine ⟨⟨h.code,I,?_,h.kinds⟩,rfl,rfl⟩;show p.l.drop (p.i+1)=r;rw [<-List.tail_drop,h.rest];rfl
theorem On.fail (h:On p ts) (c a:Int) (hc:c≠0):cE p (p.fail c a) (.error (c,a)):=by
 unfold RS.fail;rw [ah h.code];exact ⟨rfl,hc,rfl,rfl,rfl⟩
theorem wK (h:p.code≠0) (c a:Int):p.fail c a=p:=by unfold RS.fail;rw [ab h]
theorem oo (h:p.code≠0) (k:Nat):p.sign k=[]:=by unfold RS.sign;rw [ab h]
theorem jE (h:p.code≠0) {s:ae} (hs:s≠[]):p.aR s=p:=by
 unfold RS.aR;rw [oo h,ab (fun e=>hs e.symm),wK h]
theorem DQ (h:p.code≠0):p.name=([],p):=by unfold RS.name;rw [ab h]
theorem uy (h:p.code≠0) (d:Nat):p.deep d=p:=by unfold RS.deep;split <;> simp [wK h]
theorem eL {s:ae} (hs:s≠[]) (h:Go.Xp.sign ts 0=s):∃ t,ts=t::ts.tail/\t.kind=3/\t.s=s:=by
 cases ts with
 | nil=>exact absurd h.symm hs
 | cons t r =>
  refine ⟨t,rfl,?_⟩;simp only [Go.Xp.sign,getElem?_cons_zero,dZ] at h;split at h
  ·exact ⟨by assumption,h⟩
  ·exact absurd h.symm hs
theorem On.aR (h:On p ts) {s:ae} (hs:s≠[]):cE p (p.aR s) (Go.Xp.aR p.e s ts):=by
 unfold RS.aR Go.Xp.aR;rw [h.sign]
 by_cases h0:Go.Xp.sign ts 0=s
 ·rw [ah h0,ah h0];obtain ⟨t,ht,_⟩:=eL hs h0;rw [ht] at h
  exact h.next
 ·rw [ab h0,ab h0,h.place];exact h.fail 7 _ ar
theorem On.name (h:On p ts):lO p p.name.2 p.name.1 (Go.Xp.name p.e ts)\/∃ x,Go.Xp.name p.e ts=.error x/\cE p p.name.2 (.error x):=by
 have h0:=h.at 0;rw [Nat.add_zero] at h0;unfold RS.name;rw [ah h.code,h0]
 cases ts with
 | nil=>exact .inr ⟨_,rfl,by rw [h.place];exact h.fail 7 _ ar⟩
 | cons t r =>
  simp only [getElem?_cons_zero,Go.Xp.name];split
  ·split
   ·exact .inr ⟨_,rfl,h.fail 8 _ ar⟩
   ·exact .inl ⟨rfl,h.next⟩
  ·refine .inr ⟨_,rfl,?_⟩;have:p.place=t.at_:=h.place;rw [this];exact h.fail 7 _ ar
end
theorem EM {p:RS} (h:p.code≠0):(∀ g d,1<=g->mE g (.operand d) p=some (T.zero,p))/\(∀ g k d out,1<=g->mE g (.loop k d out) p=some (out,p))/\(∀ n g k d,k+n=9->n+2<=g->mE g (.level k d) p=some (T.zero,p)):=by
 have I:∀ g d,1<=g->mE g (.operand d) p=some (T.zero,p):=by
  intro g d hg
  cases g with
  | zero=>omega
  | succ g=>rw [mE];simp [uy h,h,wK h]
 have G:∀ g k d out,1<=g->mE g (.loop k d out) p=some (out,p):=by
  intro g k d out hg
  cases g with
  | zero=>omega
  | succ g=>rw [mE];simp [h]
 refine ⟨I,G,fun n=>?_⟩
 induction n with
 | zero =>
  intro g k d hk hg
  cases g with
  | zero=>omega
  | succ g=>rw [mE,ah av];exact I g _ av
 | succ n ih =>
  intro g k d hk hg
  cases g with
  | zero=>omega
  | succ g =>
   rw [mE,ab av,ih g (k+1) d av av];exact G g _ _ _ av
theorem aaQ {p:RS} (h:p.code≠0) {g d:Nat} (hg:12<=g):mE g (.expr d) p=some (T.zero,p):=by
 cases g with
 | zero=>omega
 | succ g=>rw [mE,uy h];exact (EM h).2.2 9 g 0 d rfl av
def KF (f:Nat):Nat:=2 * f+20
structure JE (f:Nat):Prop where
 expr:∀ d ts p,On p ts->rd p.e f (.expr d) ts≠.error bx->∃ t q,(∀ g,KF f<=g->mE g (.expr d) p=some (t,q))/\lO p q t (rd p.e f (.expr d) ts)
 level:∀ k d ts p,k<=9->On p ts->rd p.e f (.level k (d+1)) ts≠.error bx->∃ t q,(∀ g,KF f<=g->mE g (.level k d) p=some (t,q))/\lO p q t (rd p.e f (.level k (d+1)) ts)
 loop:∀ k d out ts p,k < 9->On p ts->rd p.e f (.loop k (d+1) out) ts≠.error bx->∃ t q,(∀ g,KF f<=g->mE g (.loop k d out) p=some (t,q))/\lO p q t (rd p.e f (.loop k (d+1) out) ts)
 operand:∀ d ts p,On p ts->rd p.e f (.operand d) ts≠.error bx->∃ t q,(∀ g,KF f<=g->mE g (.operand d) p=some (t,q))/\lO p q t (rd p.e f (.operand d) ts)
 args:∀ d acc ts p,acc≠[]->On p ts->rd.args p.e f d acc ts≠.error bx->∃ t q,(∀ g,KF f<=g->td g d acc p=some (t,q))/\lO p q t (rd.args p.e f d acc ts)
 args0:∀ d ts p,On p ts->rd.args p.e f d [] ts≠.error bx->∃ t q,(∀ g,KF f<=g->mL g d p=some (t,q))/\lO p q t (rd.args p.e f d [] ts)
theorem EW:∀ k,(levels.getD k []).contains []=false:=by
 intro k
 have h:∀ l∈levels,l.contains ([]:ae)=false:=by decide
 rw [List.getD_eq_getElem?_getD]
 cases hk:levels[k]? with
 | none=>rfl
 | some l=>exact h l (bo hk)
theorem up {f g:Nat} (h:KF (f+1)<=g):∃ g',g=g'+1/\KF f+1<=g':=⟨g - 1,by unfold KF at h;omega,by unfold KF at *;omega⟩
theorem je (f:Nat):JE f:=by
 induction f with
 | zero =>
  refine ⟨fun d ts p _ h=>absurd ?_ h,fun k d ts p _ _ h=>absurd ?_ h,fun k d out ts p _ _ h=>absurd ?_ h,fun d ts p _ h=>absurd ?_ h,fun d acc ts p _ _ h=>absurd ?_ h,fun d ts p _ h=>absurd ?_ h⟩ <;> simp [rd,rd.args]
 | succ f C =>
  refine ⟨fun d ts p hp h=>?_,fun k d ts p hk hp h=>?_,fun k d out ts p hk hp h=>?_,fun d ts p hp h=>?_,fun d acc ts p mD hp h=>?_,fun d ts p hp h=>?_⟩
  ·rw [rd] at h |-
   by_cases hd:d > 60
   ·rw [ah hd] at h |-;have hf:=hp.fail 9 p.place ar;refine ⟨T.zero,p.fail 9 p.place,fun g hg=>?_,by rw [<-hp.place];exact hf⟩;obtain ⟨g,rfl,hg⟩:=up hg;rw [mE];unfold RS.deep;rw [ah hd];exact (EM hf.err).2.2 9 g 0 d rfl zgM
   ·rw [ab hd] at h |-;obtain ⟨t,q,I,G⟩:=C.level 0 d ts p av hp h;refine ⟨t,q,fun g hg=>?_,G⟩;obtain ⟨g,rfl,hg⟩:=up hg;rw [mE];unfold RS.deep;rw [ab hd];exact I g av
  ·rw [rd] at h |-
   by_cases h9:k=9
   ·rw [ah h9] at h |-;obtain ⟨t,q,I,G⟩:=C.operand (d+1) ts p hp h;refine ⟨t,q,fun g hg=>?_,G⟩;obtain ⟨g,rfl,hg⟩:=up hg;rw [mE,ah h9];exact I g av
   ·rw [ab h9] at h |-
    cases he:rd p.e f (.level (k+1) (d+1)) ts with
    | error x =>
     rw [he] at h
     have hx:x≠bx:=fun h0=>h zgj
     obtain ⟨t,q,I,G⟩:=C.level (k+1) d ts p av hp zga;rw [he] at G;refine ⟨t,q,fun g hg=>?_,G⟩;obtain ⟨g,rfl,hg⟩:=up hg;rw [mE,ab h9,I g av];exact zfw
    | ok r =>
     obtain ⟨t',r⟩:=r;rw [he] at h;simp only at h |-;obtain ⟨t,q,I,G⟩:=C.level (k+1) d ts p av hp zgd;rw [he] at G;obtain ⟨rfl,G⟩:=G;rw [<-G.2.2] at h |-;obtain ⟨t3,q3,h3,h4⟩:=C.loop k d t r q av G.1 h;refine ⟨t3,q3,fun g hg=>?_,lO.tr G h4⟩;obtain ⟨g,rfl,hg⟩:=up hg;rw [mE,ab h9,I g av];exact h3 g av
  ·cases ts with
   | nil =>
    rw [rd];refine ⟨out,p,fun g hg=>?_,rfl,hp.self⟩;obtain ⟨g,rfl,hg⟩:=up hg;rw [mE,ab];rw [hp.sign];rintro ⟨_,h0⟩;rw [show sign ([]:List Tok) 0=[] from rfl,EW] at h0;cases h0
   | cons t r =>
    rw [rd] at h |-;have hs:p.sign 0=dZ t:=hp.sign 0
    by_cases hc:t.kind=3/\t.s∈levels.getD k []
    ·rw [ah hc] at h |-
     have hn:=hp.next
     have wY:p.l[p.i]?=some t:=hp.at 0;have qD:p.code=0/\(levels.getD k []).contains (p.sign 0)=true:=⟨hp.code,by rw [hs];unfold dZ;rw [ah hc.1];simpa using hc.2⟩;rw [show p.e=p.next.e from rfl] at h |-
     cases he:rd p.next.e f (.level (k+1) (d+1)) r with
     | error x =>
      rw [he] at h
      have hx:x≠bx:=fun h0=>h zgj
      obtain ⟨b,q,I,G⟩:=C.level (k+1) d r p.next av hn.1 zga
      rw [he] at G;refine ⟨one 6 t.at_ t.s [out,b],q,fun g hg=>?_,hn.tr (y:=.error x) G⟩;obtain ⟨g,rfl,hg⟩:=up hg;rw [mE,ah qD,wY];simp only;rw [I g av];exact zfw
     | ok x =>
      obtain ⟨b',r'⟩:=x;rw [he] at h;simp only at h |-
      obtain ⟨b,q,I,G⟩:=C.level (k+1) d r p.next av hn.1 zgd
      rw [he] at G;obtain ⟨rfl,G⟩:=G;rw [<-G.2.2] at h |-;obtain ⟨t3,q3,h3,h4⟩:=C.loop k d (one 6 t.at_ t.s [out,b]) r' q hk G.1 h;refine ⟨t3,q3,fun g hg=>?_,lO.tr (hn.tr G) h4⟩;obtain ⟨g,rfl,hg⟩:=up hg;rw [mE,ah qD,wY];simp only;rw [I g av];exact h3 g av
    ·rw [ab hc];refine ⟨out,p,fun g hg=>?_,rfl,hp.self⟩;obtain ⟨g,rfl,hg⟩:=up hg;rw [mE,ab];rintro ⟨_,h0⟩;rw [hs] at h0;unfold dZ at h0;split at h0
     ·rename_i h3;exact hc ⟨h3,by simpa using h0⟩
     ·rw [EW] at h0;cases h0
  ·rw [rd.eq_def] at h |-;simp only at h |-
   by_cases hd:d > 60
   ·rw [ah hd] at h |-;have hf:=hp.fail 9 p.place ar;refine ⟨T.zero,p.fail 9 p.place,fun g hg=>?_,by rw [<-hp.place];exact hf⟩;obtain ⟨g,rfl,hg⟩:=up hg;rw [mE];unfold RS.deep;rw [ah hd];simp [hf.err,wK hf.err]
   ·rw [ab hd] at h |-
    have eX:p.deep d=p:=by unfold RS.deep;rw [ab hd]
    cases ts with
    | nil =>
     simp only;have h0:p.l[p.i]?=none:=hp.at 0;refine ⟨T.zero,p.fail 7 p.place,fun g hg=>?_,?_⟩
     ·obtain ⟨g,rfl,hg⟩:=up hg;rw [mE];simp [eX,hp.code,h0]
     ·rw [hp.place];exact hp.fail 7 _ ar
    | cons t r =>
     simp only at h |-;have wY:p.l[p.i]?=some t:=hp.at 0
     have hn:=hp.next
     by_cases h3:t.kind=3
     ·rw [ah h3] at h |-
      have Em:¬ t.kind=1:=by omega
      have RM:¬ t.kind=2:=by omega
      by_cases hu:t.s=[45]\/t.s=[33]\/t.s=[126]
      ·rw [ah hu] at h |-;rw [show p.e=p.next.e from rfl] at h |-
       cases he:rd p.next.e f (.operand (d+1)) r with
       | error x =>
        rw [he] at h
        have hx:x≠bx:=fun h0=>h zgj
        obtain ⟨b,q,I,G⟩:=C.operand (d+1) r p.next hn.1 zga
        rw [he] at G;refine ⟨one 5 t.at_ t.s [b],q,fun g hg=>?_,hn.tr (y:=.error x) G⟩;exact zdd
       | ok x =>
        obtain ⟨b',r'⟩:=x;rw [he] at h;simp only at h |-
        obtain ⟨b,q,I,G⟩:=C.operand (d+1) r p.next hn.1 zgd
        rw [he] at G;obtain ⟨rfl,G⟩:=G;refine ⟨one 5 t.at_ t.s [b],q,fun g hg=>?_,rfl,hn.tr G⟩;exact zdd
      ·rw [ab hu] at h |-
       by_cases hb:t.s=[40]
       ·rw [ah hb] at h |-;rw [show p.e=p.next.e from rfl] at h |-
        cases he:rd p.next.e f (.expr (d+1)) r with
        | error x =>
         rw [he] at h
         have hx:x≠bx:=fun h0=>h zgj
         obtain ⟨b,q,I,G⟩:=C.expr (d+1) r p.next hn.1 zga
         rw [he] at G;refine ⟨b,q.aR [41],fun g hg=>?_,?_⟩
         ·exact zc0
         ·rw [jE (cE.err G) ar];exact hn.tr (y:=.error x) G
        | ok x =>
         obtain ⟨b',r'⟩:=x;rw [he] at h;simp only at h |-
         obtain ⟨b,q,I,G⟩:=C.expr (d+1) r p.next hn.1 zgd
         rw [he] at G;obtain ⟨rfl,G⟩:=G;have hm:=G.1.aR (s:=[41]) ar;have bj:=(hn.tr G).tr hm;rw [G.2.2] at bj;refine ⟨b,q.aR [41],fun g hg=>?_,?_⟩
         ·exact zc0
         ·cases yQ:aR p.next.e [41] r' with
          | error x=>rw [yQ] at bj;exact bj
          | ok r2=>exact zea
       ·rw [ab hb] at h |-;refine ⟨T.zero,p.fail 7 t.at_,fun g hg=>?_,hp.fail 7 _ ar⟩;obtain ⟨g,rfl,hg⟩:=up hg;rw [mE];simp only [eX,hp.code,wY,if_true,ab Em,ab RM,ab hu,ab hb]
     ·rw [ab h3] at h |-
      by_cases I:t.kind=1
      ·rw [ah I];refine ⟨_,p.next,fun g hg=>?_,rfl,hn⟩;obtain ⟨g,rfl,hg⟩:=up hg;rw [mE];simp only [eX,hp.code,wY,if_true,ah I]
      ·rw [ab I] at h |-
       by_cases G:t.kind=2
       ·by_cases hlen:t.s.length > 12
        ·have dF:name p.e (t::r)=.error (8,t.at_):=by simp [name,G,hlen]
         rw [dF] at h |-;have hf:=hp.fail 8 t.at_ ar;refine ⟨one 2 t.at_ [] [],p.fail 8 t.at_,fun g hg=>?_,hf⟩;obtain ⟨g,rfl,hg⟩:=up hg
         have en:p.name=([],p.fail 8 t.at_):=by unfold RS.name;simp [hp.code,wY,G,hlen]
         rw [mE];simp only [eX,hp.code,wY,if_true,ab I,ah G,en];obtain ⟨g,rfl⟩:∃ g',g=g'+1:=⟨g - 1,by omega⟩;rw [mE,ab (by rw [oo hf.err];decide),ab (by rw [oo hf.err];decide)]
        ·have dF:name p.e (t::r)=.ok (t.s,r):=by simp [name,G,hlen]
         have en:p.name=(t.s,p.next):=by unfold RS.name;simp [hp.code,wY,G,hlen]
         rw [dF] at h |-;simp only at h |-
         have eO:p.next.sign 0=sign r 0:=hn.1.sign 0
         have key:∀ (t':T) (q:RS),(∀ g,KF f<=g->mE (g+1) (.named t.at_ t.s d) p.next=some (t',q))->∀ g,KF (f+1)<=g->mE g (.operand d) p=some (t',q):=by
          intro t' q hk g hg;obtain ⟨g,rfl,hg⟩:=up hg;rw [mE];simp only [eX,hp.code,wY,if_true,ab I,ah G,en];exact zeO
         by_cases hb:sign r 0=[91]
         ·rw [ah hb] at h |-;obtain ⟨tb,C5,_⟩:=eL ar hb;have cx:=hn.1;rw [C5] at cx
          have cx:=hn.tr cx.next
          rw [show p.e=p.next.next.e from rfl] at h |-
          cases he:rd p.next.next.e f (.expr (d+1)) r.tail with
          | error x =>
           rw [he] at h
           have hx:x≠bx:=fun h0=>h zgj
           obtain ⟨b,q,k1,k2⟩:=C.expr (d+1) r.tail p.next.next cx.1 zga
           rw [he] at k2;refine ⟨one 3 t.at_ t.s [b],q.aR [93],key _ _ fun g hg=>?_,?_⟩
           ·rw [mE,ah zgK,k1 g hg]
           ·rw [jE (cE.err k2) ar];exact cx.tr (y:=.error x) k2
          | ok x =>
           obtain ⟨b',r'⟩:=x;rw [he] at h;simp only at h |-
           obtain ⟨b,q,k1,k2⟩:=C.expr (d+1) r.tail p.next.next cx.1 zgd
           rw [he] at k2;obtain ⟨rfl,k2⟩:=k2;have hm:=k2.1.aR (s:=[93]) ar;have bj:=(cx.tr k2).tr hm;rw [k2.2.2] at bj;refine ⟨one 3 t.at_ t.s [b],q.aR [93],key _ _ fun g hg=>?_,?_⟩
           ·rw [mE,ah zgK,k1 g hg]
           ·cases yQ:aR p.next.next.e [93] r' with
            | error x=>rw [yQ] at bj;exact bj
            | ok r2=>exact zea
         ·rw [ab hb] at h |-
          by_cases hc:sign r 0=[40]
          ·rw [ah hc] at h |-;obtain ⟨tb,C5,_⟩:=eL ar hc;have cx:=hn.1;rw [C5] at cx
           have cx:=hn.tr cx.next
           rw [show p.e=p.next.next.e from rfl] at h |-
           cases he:rd.args p.next.next.e f (d+1) [] r.tail with
           | error x =>
            rw [he] at h
            have hx:x≠bx:=fun h0=>h zgj
            obtain ⟨b,q,k1,k2⟩:=C.args0 (d+1) r.tail p.next.next cx.1 zga
            rw [he] at k2;refine ⟨one 4 t.at_ t.s b,q,key _ _ fun g hg=>?_,cx.tr (y:=.error x) k2⟩;exact ze9
           | ok x =>
            obtain ⟨b',r'⟩:=x;rw [he] at h
            obtain ⟨b,q,k1,k2⟩:=C.args0 (d+1) r.tail p.next.next cx.1 zgd
            rw [he] at k2;obtain ⟨rfl,k2⟩:=k2;refine ⟨one 4 t.at_ t.s b,q,key _ _ fun g hg=>?_,rfl,cx.tr k2⟩;exact ze9
          ·rw [ab hc] at h |-;refine ⟨one 2 t.at_ t.s [],p.next,key _ _ fun g hg=>?_,rfl,hn⟩;rw [mE,ab zgK,ab (by rw [eO];exact hc)]
       ·have dF:name p.e (t::r)=.error (7,t.at_):=by simp [name,G]
        rw [dF] at h |-;have:=hp.kinds t (bo wY);omega
  ·rw [rd.args] at h |-;have eO:p.sign 0=sign ts 0:=hp.sign 0
   by_cases hb:sign ts 0=[41]
   ·rw [ah hb];have hm:=hp.aR (s:=[41]) ar;unfold Go.Xp.aR at hm;rw [ah hb] at hm;refine ⟨acc,p.aR [41],fun g hg=>?_,rfl,hm⟩;obtain ⟨g,rfl,hg⟩:=up hg;rw [td,ab (by rw [eO,hb];decide)]
   ·rw [ab hb,ab mD] at h |-
    by_cases hc:sign ts 0=[44]
    ·have fM:Go.Xp.aR p.e [44] ts=.ok ts.tail:=by unfold Go.Xp.aR;rw [ah hc]
     rw [fM] at h |-;simp only at h |-;obtain ⟨tb,C5,_⟩:=eL ar hc;have hn:=hp;rw [C5] at hn
     have hn:=hn.next
     rw [show p.e=p.next.e from rfl] at h |-
     cases he:rd p.next.e f (.expr d) ts.tail with
     | error x =>
      rw [he] at h
      have hx:x≠bx:=fun h0=>h zgj
      obtain ⟨b,q,k1,k2⟩:=C.expr d ts.tail p.next hn.1 zga
      rw [he] at k2;refine ⟨acc++[b],q,fun g hg=>?_,hn.tr (y:=.error x) k2⟩;obtain ⟨g,rfl,hg⟩:=up hg;rw [td,ah (by rw [eO,hc]),k1 g av];exact zcs
     | ok x =>
      obtain ⟨b',r'⟩:=x;rw [he] at h;simp only at h |-
      obtain ⟨b,q,k1,k2⟩:=C.expr d ts.tail p.next hn.1 zgd
      rw [he] at k2;obtain ⟨rfl,k2⟩:=k2;rw [<-k2.2.2] at h |-;obtain ⟨t3,q3,h3,h4⟩:=C.args d (acc++[b]) r' q zf8 k2.1 h;refine ⟨t3,q3,fun g hg=>?_,lO.tr (hn.tr k2) h4⟩;obtain ⟨g,rfl,hg⟩:=up hg;rw [td,ah (by rw [eO,hc]),k1 g av];exact h3 g av
    ·have fM:Go.Xp.aR p.e [44] ts=.error (7,place p.e ts):=by unfold Go.Xp.aR;rw [ab hc]
     rw [fM];have hm:=hp.aR (s:=[41]) ar;unfold Go.Xp.aR at hm;rw [ab hb] at hm;refine ⟨acc,p.aR [41],fun g hg=>?_,hm⟩;obtain ⟨g,rfl,hg⟩:=up hg;rw [td,ab (by rw [eO];exact hc)]
  ·rw [rd.args] at h |-;have eO:p.sign 0=sign ts 0:=hp.sign 0
   by_cases hb:sign ts 0=[41]
   ·rw [ah hb];have hm:=hp.aR (s:=[41]) ar;unfold Go.Xp.aR at hm;rw [ah hb] at hm;refine ⟨[],p.aR [41],fun g hg=>?_,rfl,hm⟩;obtain ⟨g,rfl,hg⟩:=up hg;rw [mL,ah (by rw [eO,hb])]
   ·rw [ab hb,ah rfl] at h |-;simp only at h |-
    cases he:rd p.e f (.expr d) ts with
    | error x =>
     rw [he] at h
     have hx:x≠bx:=fun h0=>h zgj
     obtain ⟨b,q,k1,k2⟩:=C.expr d ts p hp zga;rw [he] at k2;refine ⟨[b],q,fun g hg=>?_,k2⟩;obtain ⟨g,rfl,hg⟩:=up hg;rw [mL,ab zgK,k1 g av];exact zcs
    | ok x =>
     obtain ⟨b',r'⟩:=x;rw [he] at h;simp only at h |-;obtain ⟨b,q,k1,k2⟩:=C.expr d ts p hp zgd;rw [he] at k2;obtain ⟨rfl,k2⟩:=k2;rw [<-k2.2.2] at h |-;obtain ⟨t3,q3,h3,h4⟩:=C.args d ([]++[b]) r' q zf8 k2.1 h;refine ⟨t3,q3,fun g hg=>?_,lO.tr k2 h4⟩;obtain ⟨g,rfl,hg⟩:=up hg;rw [mL,ab zgK,k1 g av];exact h3 g av
end Go.Sp
namespace Go.Xp
theorem acG (e:Int):∀ f,(∀ j ts,rd e f j ts=.error bx\/rd e (f+1) j ts=rd e f j ts)/\(∀ d acc ts,rd.args e f d acc ts=.error bx\/rd.args e (f+1) d acc ts=rd.args e f d acc ts):=by
 intro f
 induction f with
 | zero=>exact ⟨fun j ts=>.inl (by simp [rd]),fun d acc ts=>.inl (by simp [rd.args])⟩
 | succ f ih =>
  obtain ⟨i1,i2⟩:=ih;refine ⟨fun j ts=>?_,fun d acc ts=>?_⟩
  ·rw [rd.eq_def e (f+1+1),rd.eq_def e (f+1)]
   cases j with
   | expr d =>
    simp only;split
    ·exact zbB
    ·exact i1 _ _
   | level k d =>
    simp only;split
    ·exact i1 _ _
    ·rcases i1 (.level (k+1) d) ts with h | h
     ·left;rw [h]
     ·rw [h]
      cases rd e f (.level (k+1) d) ts with
      | error x=>exact zbB
      | ok r=>exact i1 _ _
   | loop k d out =>
    cases ts with
    | nil=>exact zbB
    | cons t r =>
     simp only;split
     ·rcases i1 (.level (k+1) d) r with h | h
      ·left;rw [h]
      ·rw [h]
       cases rd e f (.level (k+1) d) r with
       | error x=>exact zbB
       | ok r=>exact i1 _ _
     ·exact zbB
   | operand d =>
    simp only;split
    ·exact zbB
    ·cases ts with
     | nil=>exact zbB
     | cons t r =>
      simp only;split
      ·split
       ·rcases i1 (.operand (d+1)) r with h | h
        ·left;rw [h]
        ·rw [h];exact zbB
       ·split
        ·rcases i1 (.expr (d+1)) r with h | h
         ·left;rw [h]
         ·rw [h];exact zbB
        ·exact zbB
      ·split
       ·exact zbB
       ·cases name e (t::r) with
        | error x=>exact zbB
        | ok y =>
         obtain ⟨s,r⟩:=y;simp only;split
         ·rcases i1 (.expr (d+1)) r.tail with h | h
          ·left;rw [h]
          ·rw [h];exact zbB
         ·split
          ·rcases i2 (d+1) [] r.tail with h | h
           ·left;rw [h]
           ·rw [h];exact zbB
          ·exact zbB
  ·rw [rd.args,rd.args];split
   ·exact zbB
   ·cases (if acc=[] then .ok ts else aR e [44] ts:Except Er (List Tok)) with
    | error x=>exact zbB
    | ok ts =>
     simp only
     rcases i1 (.expr d) ts with h | h
     ·left;rw [h]
     ·rw [h]
      cases rd e f (.expr d) ts with
      | error x=>exact zbB
      | ok y=>exact i2 _ _ _
theorem NU {e:Int} {f f':Nat} {j:xv} {ts:List Tok} (h:rd e f j ts≠.error bx) (hf:f<=f'):rd e f' j ts=rd e f j ts:=by
 obtain ⟨k,rfl⟩:=Nat.exists_eq_add_of_le hf;clear hf
 induction k with
 | zero=>rfl
 | succ k ih =>
  rcases (acG e (f+k)).1 j ts with I | I
  ·rw [ih] at I;exact absurd I h
  ·rw [<-iJ,I,ih]
theorem FO {e:Int} {f d:Nat} {ts:List Tok} (h:20 * ts.length+12<=f):rd e f (.expr d) ts=expr e d ts:=by
 have h0:rd e (20 * ts.length+12) (.expr d) ts≠.error bx:=CB (j:=.expr d) trivial (aI _);rw [NU h0 h];unfold expr p9;exact (NU h0 av).symm
def at3 (t:T):Prop:=t.n.kind=3->∃ a,t.kids=[a]
theorem Th (e:Int):∀ f j,(∀ k d out,j≠.loop k d out)->∀ t r,rd e f j []≠.ok (t,r):=by
 intro f
 induction f with
 | zero=>intro j _ t r h;simp [rd] at h
 | succ f ih =>
  intro j hj t r h;rw [rd.eq_def] at h
  cases j with
  | expr d =>
   simp only at h;split at h
   ·cases h
   ·exact ih _ (fun k d out h=>by cases h) _ _ h
  | level k d =>
   simp only at h;split at h
   ·exact ih _ (fun k d out h=>by cases h) _ _ h
   ·split at h
    ·cases h
    ·rename_i he;exact ih _ (fun k d out h=>by cases h) _ _ he
  | loop k d out=>exact hj _ _ _ rfl
  | operand d =>
   simp only at h;exact zfs
theorem Tg (e:Int):∀ f j ts t r,(∀ k d out,j=.loop k d out->at3 out)->rd e f j ts=.ok (t,r)->at3 t:=by
 intro f
 induction f with
 | zero=>intro j ts t r _ h;simp [rd] at h
 | succ f ih =>
  intro j ts t r hj h;rw [rd.eq_def] at h
  cases j with
  | expr d =>
   simp only at h;split at h
   ·cases h
   ·exact ih _ _ _ _ (fun k d out h=>by cases h) h
  | level k d =>
   simp only at h;split at h
   ·exact ih _ _ _ _ (fun k d out h=>by cases h) h
   ·split at h
    ·cases h
    ·rename_i out lz he;exact ih _ _ _ _ (fun k' d' adU oy=>by cases oy;exact ih _ _ _ _ (fun k d out h=>by cases h) he) h
  | loop k d out =>
   cases ts with
   | nil=>cases h;exact hj k d _ rfl
   | cons a r' =>
    simp only at h;split at h
    ·split at h
     ·cases h
     ·exact ih _ _ _ _ (fun k' d' adU oy=>by cases oy;intro h3;exact absurd h3 (by simp [one,T.n])) h
    ·cases h;exact hj k d _ rfl
  | operand d =>
   simp only at h;split at h
   ·cases h
   ·cases ts with
    | nil=>cases h
    | cons a r' =>
     simp only at h;split at h
     ·split at h
      ·split at h
       ·cases h
       ·cases h;intro h3;exact zft
      ·split at h
       ·split at h
        ·cases h
        ·rename_i he;split at h
         ·cases h
         ·cases h;exact ih _ _ _ _ (fun k d out h=>by cases h) he
       ·cases h
     ·split at h
      ·cases h;intro h3;exact absurd h3 (by simp [T.n])
      ·split at h
       ·cases h
       ·split at h
        ·split at h
         ·cases h
         ·split at h
          ·cases h
          ·cases h;exact fun _=>⟨_,rfl⟩
        ·split at h
         ·split at h
          ·cases h
          ·cases h;intro h3;exact zft
         ·cases h;intro h3;exact zft
end Go.Xp
namespace Go.Sp
open Go.Xp
theorem acj {d:Nat} {ts:List Tok} {p:RS} (hp:On p ts):∃ t q,mX d p=some (t,q)/\lO p q t (expr p.e d ts):=by
 have hl:ts.length<=p.l.length:=by rw [<-hp.rest,lE];omega
 have hf:rd p.e (20 * ts.length+12) (.expr d) ts≠.error bx:=CB (j:=.expr d) trivial (aI _);obtain ⟨t,q,I,G⟩:=(je _).expr d ts p hp hf;rw [FO (aI _)] at G;exact ⟨t,q,I _ (by unfold KF fe;omega),G⟩
theorem Kj {d:Nat} {p:RS} (h:p.code≠0):mX d p=some (T.zero,p):=aaQ h (by unfold fe;omega)
theorem Ki {p:RS} (h:p.code≠0) {g d:Nat} (hg:2<=g):mS g (.block d) p=some (one 14 p.place [] [],p):=by
 obtain ⟨g,rfl⟩:∃ g',g=g'+2:=⟨g - 2,by omega⟩;rw [mS,uy h,jE h ar];simp only [mB,h,false_and,if_false];rw [jE h ar]
theorem Tv {p:RS} (h:p.code≠0) {g d:Nat} (hg:1<=g):mS g (.stmt d) p=some (one 12 p.place [] [T.zero],p):=by
 obtain ⟨g,rfl⟩:∃ g',g=g'+1:=⟨g - 1,by omega⟩;rw [mS,uy h];simp only [oo h];rw [ab ar,ab ar,ab ar,ab (fun x=>h x.1),Kj h]
 have h03:¬ (T.zero.n.kind=3/\T.zero.n.at_=p.place/\p.sign 0=[61]):=fun x=>absurd x.1 ar
 simp only;rw [ab h03,jE h ar]
structure JS' (f:Nat):Prop where
 block:∀ d ts p,On p ts->rs p.e f (.block d) ts≠.error bx->∃ t q,(∀ g,KF f<=g->mS g (.block d) p=some (t,q))/\lO p q t (rs p.e f (.block d) ts)
 stmt:∀ d ts p,On p ts->rs p.e f (.stmt d) ts≠.error bx->∃ t q,(∀ g,KF f<=g->mS g (.stmt d) p=some (t,q))/\lO p q t (rs p.e f (.stmt d) ts)
 body:∀ d acc ts p,On p ts->rs.body p.e f d acc ts≠.error bx->∃ t q,(∀ g,KF f<=g->mB g d acc p=some (t,q))/\lO p (q.aR [125]) t (rs.body p.e f d acc ts)
theorem PF {d:Nat} {ts:List Tok} {p:RS} (hp:On p ts):(∃ t q r,mX d p=some (t,q)/\expr p.e d ts=.ok (t,r)/\cE p q (.ok r))\/(∃ t q x,mX d p=some (t,q)/\expr p.e d ts=.error x/\cE p q (.error x)):=by
 obtain ⟨t,q,I,G⟩:=acj (d:=d) hp
 cases he:expr p.e d ts with
 | error x=>rw [he] at G;exact .inr ⟨t,q,x,I,rfl,G⟩
 | ok y =>
  obtain ⟨t',r⟩:=y;rw [he] at G;obtain ⟨rfl,G⟩:=G;exact .inl ⟨t,q,r,I,rfl,G⟩
theorem Cz {s:ae} {ts:List Tok} {p:RS} (hp:On p ts) (hs:s≠[]):(∃ r,Go.Xp.aR p.e s ts=.ok r/\cE p (p.aR s) (.ok r))\/(∃ x,Go.Xp.aR p.e s ts=.error x/\cE p (p.aR s) (.error x)):=by
 have h:=hp.aR hs
 cases he:Go.Xp.aR p.e s ts with
 | ok r=>rw [he] at h;exact .inl ⟨r,rfl,h⟩
 | error x=>exact zfa
theorem YT {ts:List Tok} {p:RS} (hp:On p ts):(∃ r,Go.Xp.name p.e ts=.ok (p.name.1,r)/\cE p p.name.2 (.ok r))\/(∃ x,Go.Xp.name p.e ts=.error x/\cE p p.name.2 (.error x)):=by
 rcases hp.name with h | h
 ·cases he:Go.Xp.name p.e ts with
  | ok y =>
   obtain ⟨s,r⟩:=y;rw [he] at h;obtain ⟨rfl,h⟩:=h;exact .inl ⟨r,rfl,h⟩
  | error x=>exact zfa
 ·exact .inr h
theorem Dr {d:Nat} {ts:List Tok} {p:RS} {b:ae} (hp:On p ts) (hb:b≠[]):∃ t q,mX d p=some (t,q)/\((∃ r r',expr p.e d ts=.ok (t,r)/\Go.Xp.aR p.e b r=.ok r'/\cE p (q.aR b) (.ok r'))\/(∃ r x,expr p.e d ts=.ok (t,r)/\Go.Xp.aR p.e b r=.error x/\cE p (q.aR b) (.error x))\/(∃ x,expr p.e d ts=.error x/\cE p (q.aR b) (.error x))):=by
 rcases PF (d:=d) hp with ⟨t,q,r,I,G,h3⟩ | ⟨t,q,x,I,G,h3⟩
 ·refine ⟨t,q,I,?_⟩
  rcases Cz h3.1 hb with ⟨r',h4,h5⟩ | ⟨x,h4,h5⟩
  ·rw [h3.2.2] at h4;exact .inl ⟨r,r',G,h4,h3.tr h5⟩
  ·exact zfA
 ·exact ⟨t,q,I,.inr (.inr ⟨x,G,by rw [jE h3.err hb];exact h3⟩)⟩
theorem On.qZ {ts:List Tok} {p:RS} (hp:On p ts):p.qZ=(match ts with | t::_=>decide (t.kind=2) | []=>false):=by
 have h:=hp.at 0;rw [Nat.add_zero] at h;unfold RS.qZ;rw [h]
 cases ts <;> rfl
theorem J6 {d:Nat} {ts:List Tok} {p:RS} {a b:ae} (hp:On p ts) (ha:a≠[]) (hb:b≠[]):∃ t q,mX d (p.aR a)=some (t,q)/\((∃ r,inner p.e d a b ts=.ok (t,r)/\cE p (q.aR b) (.ok r))\/∃ x,inner p.e d a b ts=.error x/\cE p (q.aR b) (.error x)):=by
 unfold Go.Xp.inner
 rcases Cz hp ha with ⟨r,I,G⟩ | ⟨x,I,G⟩
 ·rw [I];obtain ⟨t,q,h3,h4⟩:=Dr (d:=d) (b:=b) G.1 hb;rw [G.2.2] at h4;refine ⟨t,q,h3,?_⟩;simp only
  rcases h4 with ⟨r,r',k1,k2,k3⟩ | ⟨r,x,k1,k2,k3⟩ | ⟨x,k1,k3⟩
  ·exact zfM
  ·rw [k1];simp only;rw [k2];exact zbr
  ·rw [k1];exact zbr
 ·rw [I];exact ⟨T.zero,p.aR a,Kj G.err,.inr ⟨x,rfl,by rw [jE G.err hb];exact G⟩⟩
theorem KS {d:Nat} {ts:List Tok} {p:RS} (hp:On p ts):∃ t q,mX d (p.name.2.aR [61])=some (t,q)/\((∃ r,nZ p.e d ts=.ok ((p.name.1,t),r)/\cE p (q.aR [59]) (.ok r))\/∃ x,nZ p.e d ts=.error x/\cE p (q.aR [59]) (.error x)):=by
 unfold Go.Xp.nZ
 rcases YT hp with ⟨r,I,G⟩ | ⟨x,I,G⟩
 ·rw [I];obtain ⟨t,q,h3,h4⟩:=J6 (d:=d) (a:=[61]) (b:=[59]) G.1 ar ar;rw [G.2.2] at h4;refine ⟨t,q,h3,?_⟩;simp only
  rcases h4 with ⟨r,k1,k3⟩ | ⟨x,k1,k3⟩
  ·rw [k1];exact .inl ⟨r,rfl,G.tr k3⟩
  ·rw [k1];exact zbr
 ·rw [I];refine ⟨T.zero,p.name.2,by rw [jE G.err ar];exact Kj G.err,.inr ⟨x,rfl,by rw [jE G.err ar];exact G⟩⟩
theorem js (f:Nat):JS' f:=by
 induction f with
 | zero=>exact ⟨fun d ts p _ h=>absurd zg4 h,fun d ts p _ h=>absurd zg4 h,fun d acc ts p _ h=>absurd (by simp [rs.body]) h⟩
 | succ f C =>
  refine ⟨fun d ts p hp h=>?_,fun d ts p hp h=>?_,fun d acc ts p hp h=>?_⟩
  ·rw [rs] at h |-
   by_cases hd:d > 60
   ·rw [ah hd] at h |-;have hf:=hp.fail 9 p.place ar;refine ⟨one 14 (p.fail 9 p.place).place [] [],p.fail 9 p.place,fun g hg=>?_,by rw [<-hp.place];exact hf⟩
    have hdf:p.deep d=p.fail 9 p.place:=by unfold RS.deep;rw [ah hd]
    have:=Ki (g:=g) (d:=d) hf.err zgM;exact zdx
   ·rw [ab hd] at h |-
    have eX:p.deep d=p:=by unfold RS.deep;rw [ab hd]
    rcases Cz hp (s:=[123]) ar with ⟨r,I,G⟩ | ⟨x,I,G⟩
    ·rw [I] at h |-;simp only at h |-;rw [<-G.2.2] at h |-
     have hb:rs.body (p.aR [123]).e f (d+1) [] r≠.error bx:=fun h0=>h zgj
     obtain ⟨l,q,h3,h4⟩:=C.body (d+1) [] r (p.aR [123]) G.1 hb
     have cH:place (p.aR [123]).e ts=p.place:=by rw [G.2.2,hp.place]
     refine ⟨one 14 p.place [] l,q.aR [125],fun g hg=>?_,?_⟩
     ·obtain ⟨g,rfl,hg⟩:=up hg;rw [mS,eX,h3 g av]
     ·cases he:rs.body (p.aR [123]).e f (d+1) [] r with
      | error x=>rw [he] at h4;exact G.tr (y:=.error x) h4
      | ok y=>exact zdt
    ·rw [I] at h |-;refine ⟨one 14 p.place [] [],p.aR [123],fun g hg=>?_,G⟩;obtain ⟨g,rfl,hg⟩:=up hg;rw [mS,eX];obtain ⟨g,rfl⟩:∃ g',g=g'+1:=⟨g - 1,by omega⟩;simp only [mB,G.err,false_and,if_false];rw [jE G.err ar]
  ·rw [rs] at h |-
   by_cases hd:d > 60
   ·rw [ah hd] at h |-;have hf:=hp.fail 9 p.place ar
    have hdf:p.deep d=p.fail 9 p.place:=by unfold RS.deep;rw [ah hd]
    refine ⟨one 12 (p.fail 9 p.place).place [] [T.zero],p.fail 9 p.place,fun g hg=>?_,by rw [<-hp.place];exact hf⟩;have:=Tv (g:=g) (d:=d) hf.err zgM;exact zdx
   ·rw [ab hd] at h |-
    have eX:p.deep d=p:=by unfold RS.deep;rw [ab hd]
    have eO:p.sign 0=sign ts 0:=hp.sign 0;have aaE:p.sign 1=sign ts 1:=hp.sign 1;have cH:=hp.place;simp only at h |-
    by_cases hv:sign ts 0=oE
    ·rw [ah hv];obtain ⟨tv,Bx,_⟩:=eL ar hv;have hn:=hp;rw [Bx] at hn
     have hn:=hn.next
     rw [show p.e=p.next.e from rfl]
     rcases KS (d:=d+1) hn.1 with ⟨t,q,I,⟨r,G,h3⟩ | ⟨x,G,h3⟩⟩
     ·rw [G];refine ⟨one 13 p.place p.next.name.1 [t],q.aR [59],fun g hg=>?_,by rw [cH];rfl,hn.tr h3⟩;exact zfb
     ·rw [G];refine ⟨one 13 p.place p.next.name.1 [t],q.aR [59],fun g hg=>?_,hn.tr (y:=.error x) h3⟩;exact zfb
    rw [ab hv] at h |-
    by_cases hc:sign ts 0=ir\/sign ts 0=jd
    ·rw [ah hc] at h |-
     obtain ⟨tv,Bx,W4,w4⟩:∃ t,ts=t::ts.tail/\t.kind=3/\t.s=sign ts 0:=by
      rcases hc with hc | hc
      ·exact ze4
      ·exact ze4
     have hn:=hp;rw [Bx] at hn
     have hn:=hn.next
     have ud:p.ck=if sign ts 0=ir then 9 else 10:=by unfold RS.ck;rw [eO]
     have key:∀ (t:T) (q:RS),(∀ g,KF f<=g->mS (g+1) (.cond p.place d) p=some (t,q))->∀ g,KF (f+1)<=g->mS g (.stmt d) p=some (t,q):=by
      intro t q hk g hg;obtain ⟨g,rfl,hg⟩:=up hg;rw [mS,eX];rw [ab (by rw [eO];exact hv),ah (by rw [eO];exact hc)];exact zeO
     rcases J6 (d:=d+1) (a:=[40]) (b:=[41]) hn.1 ar ar with ⟨c,q,I,⟨r,G,h3⟩ | ⟨x,G,h3⟩⟩
     ·rw [show p.next.e=p.e from rfl] at G;rw [G] at h |-;simp only at h |-;have h3:=hn.tr h3
      have hb:rs p.e f (.block (d+1)) r≠.error bx:=fun h0=>h zgj
      rw [<-h3.2.2] at hb;obtain ⟨b,q2,h4,h5⟩:=C.block (d+1) r (q.aR [41]) h3.1 hb;rw [h3.2.2] at h5
      cases he:rs p.e f (.block (d+1)) r with
      | error x =>
       rw [he] at h5;refine ⟨one p.ck p.place [] [c,b],q2,key _ _ fun g hg=>?_,h3.tr (y:=.error x) h5⟩;refine zfu ?_;rw [ab (by rw [oo (cE.err h5)];exact fun x=>absurd x.2 ar)]
      | ok y =>
       obtain ⟨b',r2⟩:=y;rw [he] at h5 h;obtain ⟨rfl,h5⟩:=h5;simp only at h |-;have h5:=h3.tr h5;have mx:q2.sign 0=sign r2 0:=h5.1.sign 0
       by_cases hi:sign ts 0=ir
       ·rw [ah hi] at h ud |-
        by_cases eH:sign r2 0=km
        ·rw [ah eH] at h |-;obtain ⟨te,Sg,_⟩:=eL ar eH;have cx:=h5.1;rw [Sg] at cx
         have cx:=h5.tr cx.next
         have hb:rs p.e f (.block (d+1)) r2.tail≠.error bx:=fun h0=>h zgj
         rw [<-cx.2.2] at hb
         obtain ⟨b2,q3,h6,h7⟩:=C.block (d+1) r2.tail q2.next cx.1 hb
         rw [cx.2.2] at h7;refine ⟨one p.ck p.place [] [c,b,b2],q3,key _ _ fun g hg=>?_,?_⟩
         ·refine zfu ?_;rw [ah ⟨ud,by rw [mx,eH]⟩,h6 g hg]
         ·cases oU:rs p.e f (.block (d+1)) r2.tail with
          | error x=>rw [oU] at h7;exact cx.tr (y:=.error x) h7
          | ok y=>obtain ⟨b3,r3⟩:=y;rw [oU] at h7;obtain ⟨rfl,h7⟩:=h7;exact ⟨by rw [ud,cH],cx.tr h7⟩
        ·rw [ab eH];refine ⟨one p.ck p.place [] [c,b],q2,key _ _ fun g hg=>?_,by rw [ud,cH],h5⟩;refine zfu ?_;rw [ab (fun x=>eH (by rw [<-mx];exact x.2))]
       ·rw [ab hi] at ud |-;refine ⟨one p.ck p.place [] [c,b],q2,key _ _ fun g hg=>?_,by rw [ud,cH],h5⟩;refine zfu ?_;rw [ab (by rw [ud];exact fun x=>absurd x.1 ar)]
     ·rw [show p.next.e=p.e from rfl] at G;rw [G] at h |-;have h3:=hn.tr (y:=.error x) h3;refine ⟨one p.ck p.place [] [c,one 14 (q.aR [41]).place [] []],q.aR [41],key _ _ fun g hg=>?_,h3⟩;rw [mS,I];simp only;rw [Ki h3.err zgM];simp only;rw [ab (by rw [oo h3.err];exact fun x=>absurd x.2 ar)]
    rw [ab hc] at h |-
    have JK:¬ (p.sign 0=ir\/p.sign 0=jd):=by rw [eO];exact hc
    by_cases hr:sign ts 0=iR
    ·rw [ah hr];obtain ⟨tv,Bx,_⟩:=eL ar hr;have hn:=hp;rw [Bx] at hn
     have hn:=hn.next
     obtain ⟨t,q,I,G⟩:=Dr (d:=d+1) (b:=[59]) hn.1 ar;rw [show p.next.e=p.e from rfl] at G;refine ⟨one 11 p.place [] [t],q.aR [59],fun g hg=>?_,?_⟩
     ·obtain ⟨g,rfl,hg⟩:=up hg;rw [mS,eX];rw [ab (by rw [eO];exact hv),ab JK,ah (by rw [eO,hr]),I]
     ·rcases G with ⟨r,r',G,h3,h4⟩ | ⟨r,x,G,h3,h4⟩ | ⟨x,G,h4⟩
      ·exact zfW
      ·exact zdM
      ·rw [G];exact zb5
    rw [ab hr] at h |-
    have Ng:¬ p.sign 0=iR:=by rw [eO];exact hr
    have Nj:¬ p.sign 0=oE:=by rw [eO];exact hv
    have dF:=hp.qZ
    cases ts with
    | nil =>
     have nV:¬ (p.code=0/\p.qZ=true/\p.sign 1=[61]):=fun hx=>by have:=hx.2.1;rw [dF] at this;cases this
     rcases PF (d:=d+1) hp with ⟨t,q,r,I,G,h3⟩ | ⟨t,q,x,I,G,h3⟩
     ·exact zfN
     ·have nU:¬ (t.n.kind=3/\t.n.at_=p.place/\q.sign 0=[61]):=by rw [oo h3.err];exact fun x=>absurd x.2.2 ar
      refine ⟨one 12 p.place [] [t],q.aR [59],fun g hg=>?_,by unfold simple;rw [G,jE h3.err ar];exact h3⟩;exact zbE
    | cons a r0 =>
     simp only [simple] at h |-;simp only at dF
     by_cases jB:a.kind=2/\sign (a::r0) 1=[61]
     ·rw [ah jB];have nV:p.code=0/\p.qZ=true/\p.sign 1=[61]:=⟨hp.code,by rw [dF];simpa using jB.1,by rw [aaE];exact jB.2⟩
      rcases KS (d:=d+1) hp with ⟨t,q,I,⟨r,G,h3⟩ | ⟨x,G,h3⟩⟩
      ·rw [G];refine ⟨one 7 p.place p.name.1 [t],q.aR [59],fun g hg=>?_,by rw [cH];rfl,h3⟩;exact zeD
      ·rw [G];refine ⟨one 7 p.place p.name.1 [t],q.aR [59],fun g hg=>?_,h3⟩;exact zeD
     ·rw [ab jB]
      have nV:¬ (p.code=0/\p.qZ=true/\p.sign 1=[61]):=fun hx=>jB ⟨by have:=hx.2.1;rw [dF] at this;simpa using this,by rw [<-aaE];exact hx.2.2⟩
      have Pd:p.place=a.at_:=cH
      rcases PF (d:=d+1) hp with ⟨t,q,r,I,G,h3⟩ | ⟨t,q,x,I,G,h3⟩
      ·rw [G];simp only;have mx:q.sign 0=sign r 0:=h3.1.sign 0
       by_cases lg:t.n.kind=3/\t.n.at_=a.at_/\sign r 0=[61]
       ·rw [ah lg]
        have nU:t.n.kind=3/\t.n.at_=p.place/\q.sign 0=[61]:=by rw [Pd,mx];exact lg
        obtain ⟨te,Sg,_⟩:=eL ar lg.2.2;have hn:=h3.1;rw [Sg] at hn
        have hn:=h3.tr hn.next
        obtain ⟨ix,Bm⟩:=Tg _ _ _ _ _ _ (fun k d out hj=>by cases hj) G lg.1
        have lR:∀ lz,Go.Xp.inner p.e (d+1) [61] [59] lz=Go.Xp.inner p.e (d+1) [61] [59] lz:=fun _=>rfl
        have fM:Go.Xp.aR p.e [61] r=.ok r.tail:=by unfold Go.Xp.aR;rw [ah lg.2.2]
        obtain ⟨v,q2,h4,h5⟩:=Dr (d:=d+1) (b:=[59]) hn.1 ar;rw [hn.2.2] at h5;refine ⟨one 8 p.place t.n.s [ix,v],q2.aR [59],fun g hg=>?_,?_⟩
        ·obtain ⟨g,rfl,hg⟩:=up hg;rw [mS,eX];rw [ab Nj,ab JK,ab Ng,ab nV,I];simp only;rw [ah nU,Bm,h4]
        ·unfold Go.Xp.inner;rw [fM];simp only
         rcases h5 with ⟨r2,r',G,h3,h4⟩ | ⟨r2,x,G,h3,h4⟩ | ⟨x,G,h4⟩
         ·rw [G];simp only;rw [h3];exact ⟨by rw [Pd,Bm];rfl,hn.tr h4⟩
         ·exact zdM
         ·rw [G];exact zb5
       ·rw [ab lg]
        have nU:¬ (t.n.kind=3/\t.n.at_=p.place/\q.sign 0=[61]):=by rw [Pd,mx];exact lg
        refine ⟨one 12 p.place [] [t],q.aR [59],fun g hg=>?_,?_⟩
        ·exact zbE
        ·rcases Cz h3.1 (s:=[59]) ar with ⟨r',h4,h5⟩ | ⟨x,h4,h5⟩
         ·rw [h3.2.2] at h4;rw [h4];exact ⟨by rw [Pd],h3.tr h5⟩
         ·rw [h3.2.2] at h4;rw [h4];exact h3.tr (y:=.error x) h5
      ·rw [G]
       have nU:¬ (t.n.kind=3/\t.n.at_=p.place/\q.sign 0=[61]):=by rw [oo h3.err];exact fun x=>absurd x.2.2 ar
       refine ⟨one 12 p.place [] [t],q.aR [59],fun g hg=>?_,by rw [jE h3.err ar];exact h3⟩;exact zbE
  ·rw [rs.body] at h |-;have eO:p.sign 0=sign ts 0:=hp.sign 0
   by_cases hb:sign ts 0=[125]
   ·rw [ah hb];have hm:=hp.aR (s:=[125]) ar;unfold Go.Xp.aR at hm;rw [ah hb] at hm;refine ⟨acc,p,fun g hg=>?_,rfl,hm⟩;obtain ⟨g,rfl,hg⟩:=up hg;rw [mB,ab (fun h0=>h0.2 (by rw [eO,hb]))]
   ·rw [ab hb] at h |-
    have hs:rs p.e f (.stmt d) ts≠.error bx:=fun h0=>h zgj
    obtain ⟨a,q,I,G⟩:=C.stmt d ts p hp hs;have hc:p.code=0/\¬ p.sign 0=[125]:=⟨hp.code,by rw [eO];exact hb⟩
    cases he:rs p.e f (.stmt d) ts with
    | error x =>
     rw [he] at G h;refine ⟨acc++[a],q,fun g hg=>?_,by rw [jE (cE.err G) ar];exact G⟩;obtain ⟨g,rfl,hg⟩:=up hg;rw [mB,ah hc,I g av];simp only;obtain ⟨g,rfl⟩:∃ g',g=g'+1:=⟨g - 1,by omega⟩;rw [mB,ab (fun h0=>cE.err G h0.1)]
    | ok y =>
     obtain ⟨a',r⟩:=y;rw [he] at G h;obtain ⟨rfl,G⟩:=G;simp only at h |-;rw [<-G.2.2] at h |-;obtain ⟨l,q3,h3,h4⟩:=C.body d (acc++[a]) r q G.1 h;refine ⟨l,q3,fun g hg=>?_,lO.tr G h4⟩;obtain ⟨g,rfl,hg⟩:=up hg;rw [mB,ah hc,I g av];exact h3 g av
end Go.Sp
namespace Go.Im
open Go.Xp Go.Sp
def tok (p:RS) (k:Nat):Tok:=match p.l[p.i+k]? with | some t=>t | none=>⟨0,0,[],p.e⟩
def is (p:RS) (k:Nat) (s:ae):Bool:=(tok p k).kind==3&&(tok p k).s==s
def nr (p:RS):RS:=p.fail 7 (tok p 0).at_
def want (p:RS) (s:ae):RS:=if p.code=0 then (if is p 0 s=true then p.next else nr p) else p
def bO (p:RS):RS:=if p.code=0 then (if (tok p 0).kind=2 then (if (tok p 0).s.length > 12 then p.fail 8 (tok p 0).at_ else p.next) else nr p) else p
def cP (p:RS) (d:Nat):RS:=if d > 60 then p.fail 9 (tok p 0).at_ else p
mutual
def iE:Nat->xv->RS->Option (T × RS)
 | 0,_,_=>none
 | f+1,.expr d,p=>if (cP p d).code=0 then iE f (.level 0 (d+1)) (cP p d) else some (T.zero,cP p d)
 | f+1,.level k d,p =>
  if k=9 then iE f (.operand d) p
  else match iE f (.level (k+1) d) p with
   | none=>none
   | some (out,p)=>iE f (.loop k d out) p
 | f+1,.loop k d out,p =>
  if p.code=0/\(tok p 0).kind=3/\(levels.getD k []).contains (tok p 0).s=true then
   match iE f (.level (k+1) d) p.next with
   | none=>none
   | some (b,q)=>iE f (.loop k d (one 6 (tok p 0).at_ (tok p 0).s [out,b])) q
  else some (out,p)
 | f+1,.operand d,p =>
  if (cP p d).code=0 then
   if is p 0 [45]=true\/is p 0 [33]=true\/is p 0 [126]=true then match iE f (.operand (d+1)) p.next with
    | none=>none
    | some (a,q)=>some (one 5 (tok p 0).at_ (tok p 0).s [a],q)
   else if (tok p 0).kind=1 then some (.mk ⟨1,(tok p 0).at_,(tok p 0).n,[],[]⟩ [],p.next)
   else if is p 0 [40]=true then match iE f (.expr (d+1)) p.next with
    | none=>none
    | some (a,q)=>some (a,want q [41])
   else if (bO p).code=0 then
    if is (bO p) 0 [91]=true then match iE f (.expr (d+1)) (bO p).next with
     | none=>none
     | some (a,q)=>some (one 3 (tok p 0).at_ (tok p 0).s [a],want q [93])
    else if is (bO p) 0 [40]=true then match iA f (d+1) [] (bO p).next with
     | none=>none
     | some (l,q)=>some (one 4 (tok p 0).at_ (tok p 0).s l,q)
    else some (one 2 (tok p 0).at_ (tok p 0).s [],bO p)
   else some (one 2 (tok p 0).at_ (tok p 0).s [],bO p)
  else some (T.zero,cP p d)
def iA:Nat->Nat->List T->RS->Option (List T × RS)
 | 0,_,_,_=>none
 | f+1,d,acc,p =>
  if p.code=0/\is p 0 [41]=false then match iE f (.expr d) (if acc.length=0 then p else want p [44]) with
   | none=>none
   | some (a,q)=>iA f d (acc++[a]) q
  else some (acc,want p [41])
end
section
variable {p q:RS} {ts r:List Tok}
theorem On.tok (h:On p ts) (k:Nat):tok p k=(match ts[k]? with | some t=>t | none=>⟨0,0,[],p.e⟩):=by unfold Im.tok;rw [h.at]
theorem On.xn (h:On p ts):(Im.tok p 0).at_=Go.Xp.place p.e ts:=by
 rw [On.tok h]
 cases ts with
 | nil=>rfl
 | cons t r=>rfl
theorem On.is (h:On p ts) (k:Nat) {s:ae} (hs:s≠[]):is p k s=decide (sign ts k=s):=by
 unfold Im.is
 have he:sign ts k=(if (Im.tok p k).kind=3 then (Im.tok p k).s else []):=by
  unfold Go.Xp.sign;rw [On.tok h]
  cases hk:ts[k]? with
  | none=>simp
  | some t=>rfl
 rw [he]
 by_cases h3:(Im.tok p k).kind=3
 ·rw [ah h3,Bool.eq_iff_iff];simp [h3]
 ·rw [ab h3,Bool.eq_iff_iff];simp [h3];exact hs
theorem iX (h:p.code≠0) (s:ae):want p s=p:=by unfold want;rw [ab h]
theorem Ee (h:p.code≠0) (d:Nat):cP p d=p:=by unfold cP;split <;> simp [wK h]
theorem S4 (h:p.code≠0):bO p=p:=by unfold bO;rw [ab h]
theorem On.nr (h:On p ts):cE p (nr p) (.error (7,place p.e ts)):=by
 unfold Im.nr;rw [On.xn h];exact h.fail 7 _ ar
theorem On.want (h:On p ts) {s:ae} (hs:s≠[]):cE p (want p s) (Go.Xp.aR p.e s ts):=by
 unfold Im.want Go.Xp.aR;rw [ah h.code,On.is h 0 hs]
 by_cases h0:sign ts 0=s
 ·rw [ah zgN,ah h0];obtain ⟨t,ht,_⟩:=eL hs h0;rw [ht] at h
  exact h.next
 ·rw [ab zgN,ab h0];exact On.nr h
theorem po (h:On p ts) {s:ae} (hs:s≠[]):(∃ r,Go.Xp.aR p.e s ts=.ok r/\cE p (Im.want p s) (.ok r))\/(∃ x,Go.Xp.aR p.e s ts=.error x/\cE p (Im.want p s) (.error x)):=by
 have h:=On.want h hs
 cases he:Go.Xp.aR p.e s ts with
 | ok r=>rw [he] at h;exact .inl ⟨r,rfl,h⟩
 | error x=>exact zfa
theorem xd (h:On p ts):(∃ r,Go.Xp.name p.e ts=.ok ((Im.tok p 0).s,r)/\cE p (Im.bO p) (.ok r))\/(∃ x,Go.Xp.name p.e ts=.error x/\cE p (Im.bO p) (.error x)):=by
 have ht:=On.tok h 0;have hw:=On.nr h;unfold Im.bO;rw [ah h.code]
 cases ts with
 | nil =>
  simp only [List.getElem?_nil] at ht;rw [ht];exact .inr ⟨_,rfl,by rw [ab zf8];exact hw⟩
 | cons t r =>
  simp only [getElem?_cons_zero] at ht;rw [ht];simp only [Go.Xp.name]
  by_cases G:t.kind=2
  ·rw [ah G,ah G]
   by_cases hl:t.s.length > 12
   ·rw [ah hl,ah hl];exact .inr ⟨_,rfl,h.fail 8 _ ar⟩
   ·rw [ab hl,ab hl];exact .inl ⟨r,rfl,h.next⟩
  ·rw [ab G,ab G];exact .inr ⟨_,rfl,hw⟩
theorem J5 (h:p.code≠0) {g d:Nat} (hg:1<=g):iE g (.expr d) p=some (T.zero,p):=by
 obtain ⟨g,rfl⟩:∃ g',g=g'+1:=⟨g - 1,by omega⟩;rw [iE,Ee h,ab h]
theorem Sj (h:p.code≠0) {g k d:Nat} {out:T} (hg:1<=g):iE g (.loop k d out) p=some (out,p):=by
 obtain ⟨g,rfl⟩:∃ g',g=g'+1:=⟨g - 1,by omega⟩;rw [iE,ab (fun h0=>h h0.1)]
end
structure IE (f:Nat):Prop where
 expr:∀ d ts p,On p ts->rd p.e f (.expr d) ts≠.error bx->∃ t q,(∀ g,f+2<=g->iE g (.expr d) p=some (t,q))/\lO p q t (rd p.e f (.expr d) ts)
 level:∀ k d ts p,k<=9->On p ts->rd p.e f (.level k d) ts≠.error bx->∃ t q,(∀ g,f+2<=g->iE g (.level k d) p=some (t,q))/\lO p q t (rd p.e f (.level k d) ts)
 loop:∀ k d out ts p,k < 9->On p ts->rd p.e f (.loop k d out) ts≠.error bx->∃ t q,(∀ g,f+2<=g->iE g (.loop k d out) p=some (t,q))/\lO p q t (rd p.e f (.loop k d out) ts)
 operand:∀ d ts p,On p ts->rd p.e f (.operand d) ts≠.error bx->∃ t q,(∀ g,f+2<=g->iE g (.operand d) p=some (t,q))/\lO p q t (rd p.e f (.operand d) ts)
 args:∀ d acc ts p,On p ts->rd.args p.e f d acc ts≠.error bx->∃ t q,(∀ g,f+2<=g->iA g d acc p=some (t,q))/\lO p q t (rd.args p.e f d acc ts)
theorem pj {f g:Nat} (h:f+1+2<=g):∃ g',g=g'+1/\f+2<=g':=⟨g - 1,by omega,by omega⟩
theorem ie (f:Nat):IE f:=by
 induction f with
 | zero =>
  refine ⟨fun d ts p _ h=>absurd ?_ h,fun k d ts p _ _ h=>absurd ?_ h,fun k d out ts p _ _ h=>absurd ?_ h,fun d ts p _ h=>absurd ?_ h,fun d acc ts p _ h=>absurd ?_ h⟩ <;> simp [rd,rd.args]
 | succ f C =>
  refine ⟨fun d ts p hp h=>?_,fun k d ts p hk hp h=>?_,fun k d out ts p hk hp h=>?_,fun d ts p hp h=>?_,fun d acc ts p hp h=>?_⟩
  ·rw [rd] at h |-
   by_cases hd:d > 60
   ·rw [ah hd] at h |-;have hf:=hp.fail 9 (tok p 0).at_ ar;refine ⟨T.zero,p.fail 9 (tok p 0).at_,fun g hg=>?_,by rw [<-On.xn hp];exact hf⟩;obtain ⟨g,rfl,hg⟩:=pj hg
    have iN:cP p d=p.fail 9 (tok p 0).at_:=by unfold cP;rw [ah hd]
    rw [iE,iN,ab hf.err]
   ·rw [ab hd] at h |-
    have iN:cP p d=p:=by unfold cP;rw [ab hd]
    obtain ⟨t,q,I,G⟩:=C.level 0 (d+1) ts p av hp h;refine ⟨t,q,fun g hg=>?_,G⟩;obtain ⟨g,rfl,hg⟩:=pj hg;rw [iE,iN,ah hp.code];exact I g av
  ·rw [rd] at h |-
   by_cases h9:k=9
   ·rw [ah h9] at h |-;obtain ⟨t,q,I,G⟩:=C.operand d ts p hp h;refine ⟨t,q,fun g hg=>?_,G⟩;obtain ⟨g,rfl,hg⟩:=pj hg;rw [iE,ah h9];exact I g av
   ·rw [ab h9] at h |-
    cases he:rd p.e f (.level (k+1) d) ts with
    | error x =>
     rw [he] at h
     have hx:x≠bx:=fun h0=>h zgj
     obtain ⟨t,q,I,G⟩:=C.level (k+1) d ts p av hp zga;rw [he] at G;refine ⟨t,q,fun g hg=>?_,G⟩;obtain ⟨g,rfl,hg⟩:=pj hg;rw [iE,ab h9,I g av];exact Sj (cE.err G) av
    | ok r =>
     obtain ⟨t',r⟩:=r;rw [he] at h;simp only at h |-;obtain ⟨t,q,I,G⟩:=C.level (k+1) d ts p av hp zgd;rw [he] at G;obtain ⟨rfl,G⟩:=G;rw [<-G.2.2] at h |-;obtain ⟨t3,q3,h3,h4⟩:=C.loop k d t r q av G.1 h;refine ⟨t3,q3,fun g hg=>?_,lO.tr G h4⟩;obtain ⟨g,rfl,hg⟩:=pj hg;rw [iE,ab h9,I g av];exact h3 g av
  ·cases ts with
   | nil =>
    rw [rd];refine ⟨out,p,fun g hg=>?_,rfl,hp.self⟩;obtain ⟨g,rfl,hg⟩:=pj hg;rw [iE,ab];rintro ⟨_,h0,_⟩;rw [On.tok hp] at h0;simp at h0
   | cons t r =>
    rw [rd] at h |-
    have ht:tok p 0=t:=by rw [On.tok hp];rfl
    by_cases hc:t.kind=3/\t.s∈levels.getD k []
    ·rw [ah hc] at h |-
     have hn:=hp.next
     have qD:p.code=0/\(tok p 0).kind=3/\(levels.getD k []).contains (tok p 0).s=true:=by rw [ht];exact ⟨hp.code,hc.1,by simpa using hc.2⟩
     rw [show p.e=p.next.e from rfl] at h |-
     cases he:rd p.next.e f (.level (k+1) d) r with
     | error x =>
      rw [he] at h
      have hx:x≠bx:=fun h0=>h zgj
      obtain ⟨b,q,I,G⟩:=C.level (k+1) d r p.next av hn.1 zga
      rw [he] at G;refine ⟨one 6 t.at_ t.s [out,b],q,fun g hg=>?_,hn.tr (y:=.error x) G⟩;obtain ⟨g,rfl,hg⟩:=pj hg;rw [iE,ah qD,I g av,ht];exact Sj (cE.err G) av
     | ok x =>
      obtain ⟨b',r'⟩:=x;rw [he] at h;simp only at h |-
      obtain ⟨b,q,I,G⟩:=C.level (k+1) d r p.next av hn.1 zgd
      rw [he] at G;obtain ⟨rfl,G⟩:=G;rw [<-G.2.2] at h |-;obtain ⟨t3,q3,h3,h4⟩:=C.loop k d (one 6 t.at_ t.s [out,b]) r' q hk G.1 h;refine ⟨t3,q3,fun g hg=>?_,lO.tr (hn.tr G) h4⟩;obtain ⟨g,rfl,hg⟩:=pj hg;rw [iE,ah qD,I g av,ht];exact h3 g av
    ·rw [ab hc];refine ⟨out,p,fun g hg=>?_,rfl,hp.self⟩;obtain ⟨g,rfl,hg⟩:=pj hg;rw [iE,ab];rw [ht];rintro ⟨_,h0,I⟩;exact hc ⟨h0,by simpa using I⟩
  ·rw [rd.eq_def] at h |-;simp only at h |-
   by_cases hd:d > 60
   ·rw [ah hd] at h |-;have hf:=hp.fail 9 (tok p 0).at_ ar;refine ⟨T.zero,p.fail 9 (tok p 0).at_,fun g hg=>?_,by rw [<-On.xn hp];exact hf⟩;obtain ⟨g,rfl,hg⟩:=pj hg
    have iN:cP p d=p.fail 9 (tok p 0).at_:=by unfold cP;rw [ah hd]
    rw [iE,iN,ab hf.err]
   ·rw [ab hd] at h |-
    have iN:cP p d=p:=by unfold cP;rw [ab hd]
    have hi:∀ s:ae,s≠[]->is p 0 s=decide (sign ts 0=s):=fun s hs=>On.is hp 0 hs
    cases ts with
    | nil =>
     simp only
     have ht:tok p 0=⟨0,0,[],p.e⟩:=by rw [On.tok hp];rfl
     have cS:∀ s:ae,s≠[]->is p 0 s=false:=fun s hs=>by rw [hi s hs];exact decide_eq_false (fun h=>hs h.symm)
     have EC:bO p=p.fail 7 p.e:=by unfold bO;rw [ah hp.code,ht,ab zf8];unfold nr;rw [ht]
     have hf:=hp.fail 7 p.e ar;refine ⟨one 2 p.e [] [],p.fail 7 p.e,fun g hg=>?_,hf⟩;obtain ⟨g,rfl,hg⟩:=pj hg;rw [iE,iN,ah hp.code,cS _ ar,cS _ ar,cS _ ar,ab ar,ab (by rw [ht];simp),cS _ ar,ab ar,EC,ab hf.err,ht]
    | cons t r =>
     simp only at h |-
     have ht:tok p 0=t:=by rw [On.tok hp];rfl
     have hn:=hp.next
     by_cases h3:t.kind=3
     ·rw [ah h3] at h |-
      have eO:sign (t::r) 0=t.s:=by simp only [sign,getElem?_cons_zero,dZ,h3,if_true]
      have Em:¬ t.kind=1:=by omega
      have rZ:∀ s:ae,s≠[]->is p 0 s=decide (t.s=s):=fun s hs=>by rw [hi s hs,eO]
      by_cases hu:t.s=[45]\/t.s=[33]\/t.s=[126]
      ·rw [ah hu] at h |-
       have xJ:is p 0 [45]=true\/is p 0 [33]=true\/is p 0 [126]=true:=by
        rw [rZ _ ar,rZ _ ar,rZ _ ar];simpa using hu
       rw [show p.e=p.next.e from rfl] at h |-
       cases he:rd p.next.e f (.operand (d+1)) r with
       | error x =>
        rw [he] at h
        have hx:x≠bx:=fun h0=>h zgj
        obtain ⟨b,q,I,G⟩:=C.operand (d+1) r p.next hn.1 zga
        rw [he] at G;refine ⟨one 5 t.at_ t.s [b],q,fun g hg=>?_,hn.tr (y:=.error x) G⟩;exact ze5
       | ok x =>
        obtain ⟨b',r'⟩:=x;rw [he] at h;simp only at h |-
        obtain ⟨b,q,I,G⟩:=C.operand (d+1) r p.next hn.1 zgd
        rw [he] at G;obtain ⟨rfl,G⟩:=G;refine ⟨one 5 t.at_ t.s [b],q,fun g hg=>?_,rfl,hn.tr G⟩;exact ze5
      ·rw [ab hu] at h |-
       have xJ:¬ (is p 0 [45]=true\/is p 0 [33]=true\/is p 0 [126]=true):=by
        rw [rZ _ ar,rZ _ ar,rZ _ ar];simpa using hu
       by_cases hb:t.s=[40]
       ·rw [ah hb] at h |-
        have bG:is p 0 [40]=true:=by rw [rZ _ ar];simpa using hb
        rw [show p.e=p.next.e from rfl] at h |-
        cases he:rd p.next.e f (.expr (d+1)) r with
        | error x =>
         rw [he] at h
         have hx:x≠bx:=fun h0=>h zgj
         obtain ⟨b,q,I,G⟩:=C.expr (d+1) r p.next hn.1 zga
         rw [he] at G;refine ⟨b,want q [41],fun g hg=>?_,?_⟩
         ·exact zdp
         ·rw [iX (cE.err G)];exact hn.tr (y:=.error x) G
        | ok x =>
         obtain ⟨b',r'⟩:=x;rw [he] at h;simp only at h |-
         obtain ⟨b,q,I,G⟩:=C.expr (d+1) r p.next hn.1 zgd
         rw [he] at G;obtain ⟨rfl,G⟩:=G;have bj:=(hn.tr G).tr (On.want G.1 (s:=[41]) ar);rw [G.2.2] at bj;refine ⟨b,want q [41],fun g hg=>?_,?_⟩
         ·exact zdp
         ·cases yQ:aR p.next.e [41] r' with
          | error x=>rw [yQ] at bj;exact bj
          | ok r2=>exact zea
       ·rw [ab hb] at h |-
        have bG:¬ is p 0 [40]=true:=by rw [rZ _ ar];simpa using hb
        have EC:bO p=p.fail 7 t.at_:=by unfold bO;rw [ah hp.code,ht,ab av];unfold nr;rw [ht]
        have hf:=hp.fail 7 t.at_ ar;refine ⟨one 2 t.at_ t.s [],p.fail 7 t.at_,fun g hg=>?_,hf⟩;obtain ⟨g,rfl,hg⟩:=pj hg;rw [iE,iN,ah hp.code,ab xJ,ab (by rw [ht];exact Em),ab bG,EC,ab hf.err,ht]
     ·rw [ab h3] at h |-
      have cS:∀ s:ae,s≠[]->is p 0 s=false:=fun s hs=>by unfold is;rw [ht];simp [h3]
      have xJ:¬ (is p 0 [45]=true\/is p 0 [33]=true\/is p 0 [126]=true):=by rw [cS _ ar,cS _ ar,cS _ ar];decide
      by_cases I:t.kind=1
      ·rw [ah I];refine ⟨_,p.next,fun g hg=>?_,rfl,hn⟩;obtain ⟨g,rfl,hg⟩:=pj hg;rw [iE,iN,ah hp.code,ab xJ,ah (by rw [ht];exact I),ht]
      ·rw [ab I] at h |-
       have dD:¬ (tok p 0).kind=1:=by rw [ht];exact I
       have bG:¬ is p 0 [40]=true:=by rw [cS _ ar];decide
       rcases xd hp with ⟨r',k1,k2⟩ | ⟨x,k1,k2⟩
       ·rw [k1] at h |-;simp only at h |-
        have tJ:∀ s:ae,s≠[]->is (bO p) 0 s=decide (sign r' 0=s):=fun s hs=>On.is k2.1 0 hs
        by_cases hb:sign r' 0=[91]
        ·rw [ah hb] at h |-
         have yM:is (bO p) 0 [91]=true:=by rw [tJ _ ar];simpa using hb
         obtain ⟨tb,C5,_⟩:=eL ar hb;have cx:=k2.1;rw [C5] at cx
         have cx:=k2.tr cx.next
         rw [<-cx.2.2] at h |-
         cases he:rd (bO p).next.e f (.expr (d+1)) r'.tail with
         | error x =>
          rw [he] at h
          have hx:x≠bx:=fun h0=>h zgj
          obtain ⟨b,q,k3,k4⟩:=C.expr (d+1) r'.tail (bO p).next cx.1 zga
          rw [he] at k4;refine ⟨one 3 t.at_ (tok p 0).s [b],want q [93],fun g hg=>?_,?_⟩
          ·exact zcQ
          ·rw [iX (cE.err k4)];exact cx.tr (y:=.error x) k4
         | ok x =>
          obtain ⟨b',r2⟩:=x;rw [he] at h;simp only at h |-
          obtain ⟨b,q,k3,k4⟩:=C.expr (d+1) r'.tail (bO p).next cx.1 zgd
          rw [he] at k4;obtain ⟨rfl,k4⟩:=k4;have bj:=(cx.tr k4).tr (On.want k4.1 (s:=[93]) ar);rw [k4.2.2] at bj;refine ⟨one 3 t.at_ (tok p 0).s [b],want q [93],fun g hg=>?_,?_⟩
          ·exact zcQ
          ·cases yQ:aR (bO p).next.e [93] r2 with
           | error x=>rw [yQ] at bj;exact bj
           | ok r3=>exact zea
        ·rw [ab hb] at h |-
         have yM:¬ is (bO p) 0 [91]=true:=by rw [tJ _ ar];simpa using hb
         by_cases hc:sign r' 0=[40]
         ·rw [ah hc] at h |-
          have rG:is (bO p) 0 [40]=true:=by rw [tJ _ ar];simpa using hc
          obtain ⟨tb,C5,_⟩:=eL ar hc;have cx:=k2.1;rw [C5] at cx
          have cx:=k2.tr cx.next
          rw [<-cx.2.2] at h |-
          cases he:rd.args (bO p).next.e f (d+1) [] r'.tail with
          | error x =>
           rw [he] at h
           have hx:x≠bx:=fun h0=>h zgj
           obtain ⟨b,q,k3,k4⟩:=C.args (d+1) [] r'.tail (bO p).next cx.1 zga
           rw [he] at k4;refine ⟨one 4 t.at_ (tok p 0).s b,q,fun g hg=>?_,cx.tr (y:=.error x) k4⟩;exact zcE
          | ok x =>
           obtain ⟨b',r2⟩:=x;rw [he] at h
           obtain ⟨b,q,k3,k4⟩:=C.args (d+1) [] r'.tail (bO p).next cx.1 zgd
           rw [he] at k4;obtain ⟨rfl,k4⟩:=k4;refine ⟨one 4 t.at_ (tok p 0).s b,q,fun g hg=>?_,rfl,cx.tr k4⟩;exact zcE
         ·rw [ab hc] at h |-
          have rG:¬ is (bO p) 0 [40]=true:=by rw [tJ _ ar];simpa using hc
          refine ⟨one 2 t.at_ (tok p 0).s [],bO p,fun g hg=>?_,rfl,k2⟩;obtain ⟨g,rfl,hg⟩:=pj hg;rw [iE,iN,ah hp.code,ab xJ,ab dD,ab bG,ah k2.1.code,ab yM,ab rG];simp only [ht]
       ·rw [k1] at h |-;refine ⟨one 2 t.at_ (tok p 0).s [],bO p,fun g hg=>?_,k2⟩;obtain ⟨g,rfl,hg⟩:=pj hg;rw [iE,iN,ah hp.code,ab xJ,ab dD,ab bG,ab k2.err];simp only [ht]
  ·rw [rd.args] at h |-;have hi:is p 0 [41]=decide (sign ts 0=[41]):=On.is hp 0 ar
   by_cases hb:sign ts 0=[41]
   ·rw [ah hb];have hm:=On.want hp (s:=[41]) ar;unfold Go.Xp.aR at hm;rw [ah hb] at hm;refine ⟨acc,want p [41],fun g hg=>?_,rfl,hm⟩;obtain ⟨g,rfl,hg⟩:=pj hg;rw [iA,ab (fun h0=>by rw [hi] at h0;simp [hb] at h0)]
   ·rw [ab hb] at h |-;have qD:p.code=0/\is p 0 [41]=false:=⟨hp.code,by rw [hi];simpa using hb⟩;have key:∀ (p':RS) (lz:List Tok),cE p p' (.ok lz)->(if acc.length=0 then p else want p [44])=p'->(match rd p.e f (.expr d) lz with | .error x=>.error x | .ok (a,ts)=>rd.args p.e f d (acc++[a]) ts:Rd (List T))≠.error bx ->
      ∃ t q,(∀ g,f+1+2<=g->iA g d acc p=some (t,q))/\lO p q t (match rd p.e f (.expr d) lz with | .error x=>.error x | .ok (a,ts)=>rd.args p.e f d (acc++[a]) ts):=by
     intro p' lz hn JN h;rw [<-hn.2.2] at h |-
     cases he:rd p'.e f (.expr d) lz with
     | error x =>
      rw [he] at h
      have hx:x≠bx:=fun h0=>h zgj
      obtain ⟨b,q,k1,k2⟩:=C.expr d lz p' hn.1 zga;rw [he] at k2;refine ⟨acc++[b],q,fun g hg=>?_,hn.tr (y:=.error x) k2⟩;obtain ⟨g,rfl,hg⟩:=pj hg;rw [iA,ah qD,JN,k1 g av];simp only;obtain ⟨g,rfl⟩:∃ g',g=g'+1:=⟨g - 1,by omega⟩;rw [iA,ab (fun h0=>cE.err k2 h0.1),iX (cE.err k2)]
     | ok x =>
      obtain ⟨b',r'⟩:=x;rw [he] at h;simp only at h |-;obtain ⟨b,q,k1,k2⟩:=C.expr d lz p' hn.1 zgd;rw [he] at k2;obtain ⟨rfl,k2⟩:=k2;rw [<-k2.2.2] at h |-;obtain ⟨t3,q3,h3,h4⟩:=C.args d (acc++[b]) r' q k2.1 h;refine ⟨t3,q3,fun g hg=>?_,lO.tr (hn.tr k2) h4⟩;obtain ⟨g,rfl,hg⟩:=pj hg;rw [iA,ah qD,JN,k1 g av];exact h3 g av
    cases acc with
    | nil =>
     rw [ah rfl] at h |-;exact key p ts hp.self rfl h
    | cons a0 acc0 =>
     rw [ab zf8] at h |-
     rcases po hp (s:=[44]) ar with ⟨r',k1,k2⟩ | ⟨x,k1,k2⟩
     ·rw [k1] at h |-;exact key _ r' k2 (ab zf8) h
     ·rw [k1];refine ⟨a0::acc0++[T.zero],want p [44],fun g hg=>?_,k2⟩;obtain ⟨g,rfl,hg⟩:=pj hg;rw [iA,ah qD,ab zf8,J5 k2.err av];simp only;obtain ⟨g,rfl⟩:∃ g',g=g'+1:=⟨g - 1,by omega⟩;rw [iA,ab (fun h0=>k2.err h0.1),iX k2.err]
end Go.Im
namespace Go.Xp
abbrev wz (ts:List Tok):Prop:=ts.Pairwise fun a b=>a.at_ < b.at_
theorem Ae {e:Int} {s:ae} {ts r:List Tok} (hs:s≠[]) (h:aR e s ts=.ok r):∃ u,ts=u::r/\u.kind=3/\u.s=s:=by
 obtain ⟨I,G⟩:=F9 h;obtain ⟨t,h3,h4,h5⟩:=Go.Sp.eL hs G;exact ⟨t,by rw [I];exact h3,h4,h5⟩
theorem Kq {e:Int} {s:ae} {ts r:List Tok} (h:name e ts=.ok (s,r)):∃ u,ts=u::r/\u.kind=2/\u.s=s/\s.length<=12:=by
 cases ts with
 | nil=>cases h
 | cons t ts =>
  rw [name] at h;split at h
  ·split at h
   ·cases h
   ·cases h;exact ⟨t,rfl,by assumption,rfl,by omega⟩
  ·cases h
theorem xl {s:ae} {ts:List Tok} (hs:s≠[]) (h:sign ts 0=s):∃ u,ts=u::ts.tail/\u.kind=3/\u.s=s:=Go.Sp.eL hs h
def ZL (ts r:List Tok) (t:T):Prop:=∃ a pre,ts=a::(pre++r)/\(wz ts->a.at_<=t.n.at_/\(t.n.kind=3->t.n.at_=a.at_->a.kind=2/\∃ aa5 w,a::pre=aa5++[w]/\w.s=[93]))
def ZI (ts r:List Tok) (out t:T):Prop:=(t=out/\r=ts)\/(t.n.kind=6/\∃ pre,ts=pre++r/\∃ u∈ts,t.n.at_=u.at_)
theorem Y9 (e:Int):∀ f,(∀ j ts t r,(∀ k d out,j≠.loop k d out)->rd e f j ts=.ok (t,r)->ZL ts r t)/\(∀ k d out ts t r,rd e f (.loop k d out) ts=.ok (t,r)->ZI ts r out t)/\(∀ d acc ts l r,rd.args e f d acc ts=.ok (l,r)->∃ pre,ts=pre++r/\pre≠[]):=by
 intro f
 induction f with
 | zero=>exact ⟨fun j ts t r _ h=>by simp [rd] at h,fun k d out ts t r h=>by simp [rd] at h,fun d acc ts l r h=>by simp [rd.args] at h⟩
 | succ f ih =>
  obtain ⟨i1,i2,i3⟩:=ih;refine ⟨fun j ts t r hj h=>?_,fun k d out ts t r h=>?_,fun d acc ts l r h=>?_⟩
  ·rw [rd.eq_def] at h
   cases j with
   | expr d =>
    simp only at h;split at h
    ·cases h
    ·exact i1 _ _ _ _ (fun k d out h=>by cases h) h
   | level k d =>
    simp only at h;split at h
    ·exact i1 _ _ _ _ (fun k d out h=>by cases h) h
    ·split at h
     ·cases h
     ·rename_i out lz he;have I:=i1 _ _ _ _ (fun k d out h=>by cases h) he;have G:=i2 _ _ _ _ _ _ h
      rcases G with ⟨rfl,rfl⟩ | ⟨h3,Gc,rfl,u,hu,h4⟩
      ·exact I
      ·obtain ⟨a,pre,rfl,h5⟩:=I;refine ⟨a,pre++Gc,by simp,fun hs=>⟨?_,fun h6=>by omega⟩⟩;rw [h4];rw [wz,List.pairwise_cons] at hs;exact Int.le_of_lt (hs.1 u (List.mem_append_right _ hu))
   | loop k d out=>exact absurd rfl (hj _ _ _)
   | operand d =>
    simp only at h;split at h
    ·cases h
    ·cases ts with
     | nil=>cases h
     | cons a r' =>
      simp only at h;split at h
      ·rename_i h3;split at h
       ·split at h
        ·cases h
        ·rename_i b r2 he;cases h;obtain ⟨a2,pre,rfl,_⟩:=i1 _ _ _ _ (fun k d out h=>by cases h) he;exact ⟨a,a2::pre,by simp,fun _=>⟨by simp [one,T.n],fun h=>by simp [one,T.n] at h⟩⟩
       ·split at h
        ·split at h
         ·cases h
         ·rename_i b r2 he;split at h
          ·cases h
          ·rename_i r3 hm;cases h;obtain ⟨a2,pre,rfl,h5⟩:=i1 _ _ _ _ (fun k d out h=>by cases h) he;obtain ⟨w,rfl,_,_⟩:=Ae ar hm;refine ⟨a,a2::(pre++[w]),by simp,fun hs=>?_⟩;rw [wz,List.pairwise_cons] at hs;have h6:=(h5 hs.2).1;have h7:=hs.1 a2 zf8;exact ⟨by omega,fun _ h8=>by omega⟩
        ·cases h
      ·split at h
       ·cases h;exact ⟨a,[],rfl,fun _=>⟨Int.le_refl _,fun h=>by simp [T.n] at h⟩⟩
       ·split at h
        ·cases h
        ·rename_i s r2 hn;obtain ⟨u,hu,hk,_⟩:=Kq hn;cases hu;split at h
         ·rename_i hs;obtain ⟨w,hw,_,_⟩:=xl ar hs;split at h
          ·cases h
          ·rename_i b r3 he;split at h
           ·cases h
           ·rename_i r4 hm;cases h;obtain ⟨a2,pre,h4,h5⟩:=i1 _ _ _ _ (fun k d out h=>by cases h) he;obtain ⟨z,rfl,_,hz⟩:=Ae ar hm;refine ⟨a,w::a2::(pre++[z]),by rw [hw,h4];simp,fun _=>⟨Int.le_refl _,fun _ _=>⟨hk,a::w::a2::pre,z,by simp,hz⟩⟩⟩
         ·split at h
          ·rename_i hs;obtain ⟨w,hw,_,_⟩:=xl ar hs;split at h
           ·cases h
           ·rename_i l r3 he;cases h;obtain ⟨pre,h4,_⟩:=i3 _ _ _ _ _ he;exact ⟨a,w::pre,by rw [hw,h4];simp,fun _=>⟨Int.le_refl _,fun h=>by simp [one,T.n] at h⟩⟩
          ·cases h;exact ⟨a,[],rfl,fun _=>⟨Int.le_refl _,fun h=>by simp [one,T.n] at h⟩⟩
  ·cases ts with
   | nil=>rw [rd] at h;cases h;exact .inl ⟨rfl,rfl⟩
   | cons a r' =>
    rw [rd] at h;split at h
    ·split at h
     ·cases h
     ·rename_i b r2 he;obtain ⟨a2,pre,rfl,_⟩:=i1 _ _ _ _ (fun k d out h=>by cases h) he
      rcases i2 _ _ _ _ _ _ h with ⟨rfl,rfl⟩ | ⟨h3,Gc,rfl,u,hu,h4⟩
      ·exact .inr ⟨rfl,a::a2::pre,by simp,a,by simp,rfl⟩
      ·exact .inr ⟨h3,a::a2::(pre++Gc),by simp,u,by simp at hu |-;rcases hu with h | h <;> simp [h],h4⟩
    ·cases h;exact .inl ⟨rfl,rfl⟩
  ·rw [rd.args] at h;split at h
   ·rename_i hs;obtain ⟨w,hw,_,_⟩:=xl ar hs;cases h;exact ⟨[w],by rw [hw];rfl,by simp⟩
   ·split at h
    ·cases h
    ·rename_i lz w4;split at h
     ·cases h
     ·rename_i a r' he;obtain ⟨a2,pre,h4,_⟩:=i1 _ _ _ _ (fun k d out h=>by cases h) he;obtain ⟨Gc,h5,_⟩:=i3 _ _ _ _ _ h;split at w4
      ·cases w4;exact ⟨a2::(pre++Gc),by rw [h4,h5];simp,by simp⟩
      ·obtain ⟨w,hw,_,_⟩:=Ae ar w4;exact ⟨w::a2::(pre++Gc),by rw [hw,h4,h5];simp,by simp⟩
theorem Q9 {e:Int} {d:Nat} {ts r:List Tok} {t:T} (h:expr e d ts=.ok (t,r)):ZL ts r t:=(Y9 e _).1 _ _ _ _ (fun k d out h=>by cases h) h
end Go.Xp
namespace Go.Im
open Go.Xp Go.Sp
def xP (p:RS):ae:=match p.l[p.i - 1]? with | some t=>t.s | none=>[]
def An (p q:RS) (e:T):Prop:=e.n.kind=3/\q.code=0/\xP q=[93]/\e.n.at_=(tok p 0).at_/\(tok p 0).kind=2/\is q 0 [61]=true
instance (p q:RS) (e:T):Decidable (An p q e):=by unfold An;infer_instance
mutual
def iS:Nat->vE->RS->Option (T × RS)
 | 0,_,_=>none
 | f+1,.block d,p =>
  if (cP p d).code=0 then match iB f (d+1) [] (want p [123]) with
   | none=>none
   | some (l,q)=>some (one 14 (tok p 0).at_ [] l,want q [125])
  else some (one 14 (tok p 0).at_ [] [],cP p d)
 | f+1,.stmt d,p =>
  if (cP p d).code=0 then
   if is p 0 oE=true then match iE f (.expr (d+1)) (want (bO p.next) [61]) with
    | none=>none
    | some (e,q)=>some (one 13 (tok p 0).at_ (tok p.next 0).s [e],want q [59])
   else if is p 0 ir=true\/is p 0 jd=true then match iE f (.expr (d+1)) (want p.next [40]) with
    | none=>none
    | some (c,q)=>match iS f (.block (d+1)) (want q [41]) with
     | none=>none
     | some (b,q) =>
      if is p 0 ir=true/\q.code=0/\is q 0 km=true then match iS f (.block (d+1)) q.next with
       | none=>none
       | some (b2,q)=>some (one 9 (tok p 0).at_ [] [c,b,b2],q)
      else some (one (if is p 0 ir=true then 9 else 10) (tok p 0).at_ [] [c,b],q)
   else if is p 0 iR=true then match iE f (.expr (d+1)) p.next with
    | none=>none
    | some (e,q)=>some (one 11 (tok p 0).at_ [] [e],want q [59])
   else if (tok p 0).kind=2/\is p 1 [61]=true then match iE f (.expr (d+1)) (want (bO p) [61]) with
    | none=>none
    | some (e,q)=>some (one 7 (tok p 0).at_ (tok p 0).s [e],want q [59])
   else match iE f (.expr (d+1)) p with
    | none=>none
    | some (e,q) =>
     if An p q e then match e.kids,iE f (.expr (d+1)) (want q [61]) with
      | a::_,some (v,q)=>some (one 8 (tok p 0).at_ e.n.s [a,v],want q [59])
      | _,_=>none
     else some (one 12 (tok p 0).at_ [] [e],want q [59])
  else some (T.zero,cP p d)
def iB:Nat->Nat->List T->RS->Option (List T × RS)
 | 0,_,_,_=>none
 | f+1,d,acc,p=>if p.code=0/\is p 0 [125]=false then match iS f (.stmt d) p with
   | none=>none
   | some (a,q)=>iB f d (acc++[a]) q
  else some (acc,p)
end
def KI (p:RS) (f:Nat):Nat:=f+20 * p.l.length+40
section
variable {p q:RS} {ts r:List Tok}
theorem Pn {d g:Nat} (hp:On p ts) (hg:20 * p.l.length+20<=g):∃ t q,(∀ g,20 * p.l.length+20<=g->iE g (.expr d) p=some (t,q))/\((∃ r,expr p.e d ts=.ok (t,r)/\cE p q (.ok r))\/(∃ x,expr p.e d ts=.error x/\cE p q (.error x))):=by
 have hl:ts.length<=p.l.length:=by rw [<-hp.rest,lE];omega
 have hf:rd p.e (20 * ts.length+12) (.expr d) ts≠.error bx:=CB (j:=.expr d) trivial (aI _);obtain ⟨t,q,I,G⟩:=(ie _).expr d ts p hp hf;rw [FO (aI _)] at G;refine ⟨t,q,fun g hg=>I g av,?_⟩
 cases he:expr p.e d ts with
 | error x=>rw [he] at G;exact .inr ⟨x,rfl,G⟩
 | ok y=>obtain ⟨t',r⟩:=y;rw [he] at G;obtain ⟨rfl,G⟩:=G;exact .inl ⟨r,rfl,G⟩
theorem Pm {d:Nat} {b:ae} (hp:On p ts) (hb:b≠[]):∃ t q,(∀ g,20 * p.l.length+20<=g->iE g (.expr d) p=some (t,q))/\((∃ r r',expr p.e d ts=.ok (t,r)/\Go.Xp.aR p.e b r=.ok r'/\cE p (want q b) (.ok r'))\/(∃ r x,expr p.e d ts=.ok (t,r)/\Go.Xp.aR p.e b r=.error x/\cE p (want q b) (.error x))\/(∃ x,expr p.e d ts=.error x/\cE p (want q b) (.error x))):=by
 obtain ⟨t,q,I,G⟩:=Pn (d:=d) hp (aI _);refine ⟨t,q,I,?_⟩
 rcases G with ⟨r,G,h3⟩ | ⟨x,G,h3⟩
 ·rcases po h3.1 hb with ⟨r',h4,h5⟩ | ⟨x,h4,h5⟩
  ·rw [h3.2.2] at h4;exact .inl ⟨r,r',G,h4,h3.tr h5⟩
  ·exact zfA
 ·exact .inr (.inr ⟨x,G,by rw [iX h3.err];exact h3⟩)
theorem Si {d:Nat} {a b:ae} (hp:On p ts) (ha:a≠[]) (hb:b≠[]):∃ t q,(∀ g,20 * p.l.length+20<=g->iE g (.expr d) (want p a)=some (t,q))/\((∃ r,inner p.e d a b ts=.ok (t,r)/\cE p (want q b) (.ok r))\/∃ x,inner p.e d a b ts=.error x/\cE p (want q b) (.error x)):=by
 unfold Go.Xp.inner
 rcases po hp ha with ⟨r,I,G⟩ | ⟨x,I,G⟩
 ·rw [I];obtain ⟨t,q,h3,h4⟩:=Pm (d:=d) (b:=b) G.1 hb;rw [G.2.2] at h4;rw [G.2.1] at h3;refine ⟨t,q,h3,?_⟩;simp only
  rcases h4 with ⟨r,r',k1,k2,k3⟩ | ⟨r,x,k1,k2,k3⟩ | ⟨x,k1,k3⟩
  ·exact zfM
  ·rw [k1];simp only;rw [k2];exact zbr
  ·rw [k1];exact zbr
 ·rw [I];exact ⟨T.zero,want p a,fun g hg=>J5 G.err av,.inr ⟨x,rfl,by rw [iX G.err];exact G⟩⟩
theorem Sn {d:Nat} (hp:On p ts):∃ t q,(∀ g,20 * p.l.length+20<=g->iE g (.expr d) (want (bO p) [61])=some (t,q))/\((∃ r,nZ p.e d ts=.ok (((tok p 0).s,t),r)/\cE p (want q [59]) (.ok r))\/∃ x,nZ p.e d ts=.error x/\cE p (want q [59]) (.error x)):=by
 unfold Go.Xp.nZ
 rcases xd hp with ⟨r,I,G⟩ | ⟨x,I,G⟩
 ·rw [I];obtain ⟨t,q,h3,h4⟩:=Si (d:=d) (a:=[61]) (b:=[59]) G.1 ar ar;rw [G.2.2] at h4;rw [G.2.1] at h3;refine ⟨t,q,h3,?_⟩;simp only
  rcases h4 with ⟨r,k1,k3⟩ | ⟨x,k1,k3⟩
  ·rw [k1];exact .inl ⟨r,rfl,G.tr k3⟩
  ·rw [k1];exact zbr
 ·rw [I];refine ⟨T.zero,bO p,fun g hg=>by rw [iX G.err];exact J5 G.err av,.inr ⟨x,rfl,by rw [iX G.err];exact G⟩⟩
theorem Vf (h:p.code≠0) {g d:Nat} (hg:1<=g):iS g (.block d) p=some (one 14 (tok p 0).at_ [] [],p):=by
 obtain ⟨g,rfl⟩:∃ g',g=g'+1:=⟨g - 1,by omega⟩;rw [iS,Ee h,ab h]
theorem On.srt (h:On p ts) (hs:wz p.l):wz ts:=by rw [<-h.rest];exact hs.drop
theorem On.last (h:On p ts) {pre r:List Tok} {w:Tok} (hq:cE p q (.ok r)) (ht:ts=(pre++[w])++r):xP q=w.s:=by
 have I:p.l=p.l.take p.i++(pre++w::r):=by
  have:=List.take_append_drop p.i p.l;rw [h.rest,ht] at this;simp only [eF,List.singleton_append,cons_append,nil_append] at this;exact this.symm
 have hr:=congrArg List.length hq.1.rest;have hl:=congrArg List.length I;have hle:=hq.1.le;have cH:=h.le;rw [hq.2.1] at hr hle;simp only [lE,aL,length_cons,gE] at hr hl;unfold xP;rw [hq.2.1,I,gR zgA,gR zgA]
 have:q.i - 1 - (p.l.take p.i).length - pre.length=0:=by rw [gE];omega
 rw [this];rfl
end
structure IS' (f:Nat):Prop where
 block:∀ d ts p,On p ts->wz p.l->rs p.e f (.block d) ts≠.error bx->∃ t q,(∀ g,KI p f<=g->iS g (.block d) p=some (t,q))/\lO p q t (rs p.e f (.block d) ts)
 stmt:∀ d ts p,On p ts->wz p.l->rs p.e f (.stmt d) ts≠.error bx->∃ t q,(∀ g,KI p f<=g->iS g (.stmt d) p=some (t,q))/\lO p q t (rs p.e f (.stmt d) ts)
 body:∀ d acc ts p,On p ts->wz p.l->rs.body p.e f d acc ts≠.error bx->∃ t q,(∀ g,KI p f<=g->iB g d acc p=some (t,q))/\lO p (want q [125]) t (rs.body p.e f d acc ts)
theorem sc {p:RS} {f g:Nat} (h:KI p (f+1)<=g):∃ g',g=g'+1/\KI p f<=g'/\20 * p.l.length+20<=g':=⟨g - 1,by unfold KI at h;omega,by unfold KI at *;omega,by unfold KI at h;omega⟩
theorem Ih {p q:RS} (h:q.l=p.l) (f:Nat):KI q f=KI p f:=by unfold KI;rw [h]
theorem is_ (f:Nat):IS' f:=by
 induction f with
 | zero=>exact ⟨fun d ts p _ _ h=>absurd zg4 h,fun d ts p _ _ h=>absurd zg4 h,fun d acc ts p _ _ h=>absurd (by simp [rs.body]) h⟩
 | succ f C =>
  refine ⟨fun d ts p hp hs h=>?_,fun d ts p hp hs h=>?_,fun d acc ts p hp hs h=>?_⟩
  ·rw [rs] at h |-;have cH:=On.xn hp
   by_cases hd:d > 60
   ·rw [ah hd] at h |-;have hf:=hp.fail 9 (tok p 0).at_ ar;refine ⟨one 14 (tok p 0).at_ [] [],p.fail 9 (tok p 0).at_,fun g hg=>?_,by rw [<-cH];exact hf⟩;obtain ⟨g,rfl,ox,iO⟩:=sc hg
    have iN:cP p d=p.fail 9 (tok p 0).at_:=by unfold cP;rw [ah hd]
    rw [iS,iN,ab hf.err]
   ·rw [ab hd] at h |-
    have iN:cP p d=p:=by unfold cP;rw [ab hd]
    rcases po hp (s:=[123]) ar with ⟨r,I,G⟩ | ⟨x,I,G⟩
    ·rw [I] at h |-;simp only at h |-
     have hb:rs.body p.e f (d+1) [] r≠.error bx:=fun h0=>h zgj
     rw [<-G.2.2] at hb;obtain ⟨l,q,h3,h4⟩:=C.body (d+1) [] r (want p [123]) G.1 (by rw [G.2.1];exact hs) hb;rw [G.2.2] at h4;rw [Ih G.2.1] at h3;refine ⟨one 14 (tok p 0).at_ [] l,want q [125],fun g hg=>?_,?_⟩
     ·obtain ⟨g,rfl,ox,iO⟩:=sc hg;rw [iS,iN,ah hp.code,h3 g av]
     ·cases he:rs.body p.e f (d+1) [] r with
      | error x=>rw [he] at h4;exact G.tr (y:=.error x) h4
      | ok y=>exact zdt
    ·rw [I] at h |-;refine ⟨one 14 (tok p 0).at_ [] [],want p [123],fun g hg=>?_,G⟩;obtain ⟨g,rfl,ox,iO⟩:=sc hg;rw [iS,iN,ah hp.code];obtain ⟨g,rfl⟩:∃ g',g=g'+1:=⟨g - 1,by omega⟩;rw [iB,ab (fun h0=>G.err h0.1)];simp only;rw [iX G.err]
  ·rw [rs] at h |-;have cH:=On.xn hp
   by_cases hd:d > 60
   ·rw [ah hd] at h |-;have hf:=hp.fail 9 (tok p 0).at_ ar;refine ⟨T.zero,p.fail 9 (tok p 0).at_,fun g hg=>?_,by rw [<-cH];exact hf⟩;obtain ⟨g,rfl,ox,iO⟩:=sc hg
    have iN:cP p d=p.fail 9 (tok p 0).at_:=by unfold cP;rw [ah hd]
    rw [iS,iN,ab hf.err]
   ·rw [ab hd] at h |-
    have iN:cP p d=p:=by unfold cP;rw [ab hd]
    have hi:∀ s:ae,s≠[]->is p 0 s=decide (sign ts 0=s):=fun s hs=>On.is hp 0 hs
    have CZ:is p 1 [61]=decide (sign ts 1=[61]):=On.is hp 1 ar;simp only at h |-
    by_cases hv:sign ts 0=oE
    ·rw [ah hv]
     have vO:is p 0 oE=true:=by rw [hi _ ar];simpa using hv
     obtain ⟨tv,Bx,_⟩:=eL ar hv;have hn:=hp;rw [Bx] at hn
     have hn:=hn.next
     rw [show p.e=p.next.e from rfl];obtain ⟨t,q,I,G⟩:=Sn (d:=d+1) hn.1
     rcases G with ⟨r,G,h3⟩ | ⟨x,G,h3⟩
     ·rw [G];refine ⟨one 13 (tok p 0).at_ (tok p.next 0).s [t],want q [59],fun g hg=>?_,by rw [cH];rfl,hn.tr h3⟩;exact ze6
     ·rw [G];refine ⟨one 13 (tok p 0).at_ (tok p.next 0).s [t],want q [59],fun g hg=>?_,hn.tr (y:=.error x) h3⟩;exact ze6
    rw [ab hv] at h |-
    have vO:¬ is p 0 oE=true:=by rw [hi _ ar];simpa using hv
    by_cases hc:sign ts 0=ir\/sign ts 0=jd
    ·rw [ah hc] at h |-
     have rG:is p 0 ir=true\/is p 0 jd=true:=by rw [hi _ ar,hi _ ar];simpa using hc
     obtain ⟨tv,Bx⟩:∃ t,ts=t::ts.tail:=by
      rcases hc with hc | hc
      ·obtain ⟨t,I,_⟩:=eL ar hc;exact ⟨t,I⟩
      ·obtain ⟨t,I,_⟩:=eL ar hc;exact ⟨t,I⟩
     have hn:=hp;rw [Bx] at hn
     have hn:=hn.next
     have ud:(if is p 0 ir=true then (9:Int) else 10)=if sign ts 0=ir then 9 else 10:=by rw [hi _ ar];simp
     obtain ⟨c,q,I,G⟩:=Si (d:=d+1) (a:=[40]) (b:=[41]) hn.1 ar ar
     rcases G with ⟨r,G,h3⟩ | ⟨x,G,h3⟩
     ·rw [show p.next.e=p.e from rfl] at G;rw [G] at h |-;simp only at h |-;have h3:=hn.tr h3
      have hb:rs p.e f (.block (d+1)) r≠.error bx:=fun h0=>h zgj
      rw [<-h3.2.2] at hb;obtain ⟨b,q2,h4,h5⟩:=C.block (d+1) r (want q [41]) h3.1 (by rw [h3.2.1];exact hs) hb;rw [h3.2.2] at h5;rw [Ih h3.2.1] at h4
      cases he:rs p.e f (.block (d+1)) r with
      | error x =>
       rw [he] at h5;refine ⟨one (if is p 0 ir=true then 9 else 10) (tok p 0).at_ [] [c,b],q2,fun g hg=>?_,h3.tr (y:=.error x) h5⟩;obtain ⟨g,rfl,ox,iO⟩:=sc hg;refine zbS ?_;rw [ab (fun h0=>cE.err h5 h0.2.1)]
      | ok y =>
       obtain ⟨b',r2⟩:=y;rw [he] at h5 h;obtain ⟨rfl,h5⟩:=h5;simp only at h |-;have h5:=h3.tr h5;have mx:is q2 0 km=decide (sign r2 0=km):=On.is h5.1 0 ar
       by_cases JN:sign ts 0=ir
       ·rw [ah JN] at h ud |-
        have U6:is p 0 ir=true:=by rw [hi _ ar];simpa using JN
        by_cases eH:sign r2 0=km
        ·rw [ah eH] at h |-;obtain ⟨te,Sg,_⟩:=eL ar eH;have cx:=h5.1;rw [Sg] at cx
         have cx:=h5.tr cx.next
         have hb:rs p.e f (.block (d+1)) r2.tail≠.error bx:=fun h0=>h zgj
         rw [<-cx.2.2] at hb
         obtain ⟨b2,q3,h6,h7⟩:=C.block (d+1) r2.tail q2.next cx.1 (by rw [cx.2.1];exact hs) hb
         rw [cx.2.2] at h7;rw [Ih cx.2.1] at h6;refine ⟨one 9 (tok p 0).at_ [] [c,b,b2],q3,fun g hg=>?_,?_⟩
         ·obtain ⟨g,rfl,ox,iO⟩:=sc hg;refine zbS ?_;rw [ah ⟨U6,h5.1.code,by rw [mx];simpa using eH⟩,h6 g ox]
         ·cases oU:rs p.e f (.block (d+1)) r2.tail with
          | error x=>rw [oU] at h7;exact cx.tr (y:=.error x) h7
          | ok y=>obtain ⟨b3,r3⟩:=y;rw [oU] at h7;obtain ⟨rfl,h7⟩:=h7;exact ⟨by rw [cH],cx.tr h7⟩
        ·rw [ab eH];refine ⟨one (if is p 0 ir=true then 9 else 10) (tok p 0).at_ [] [c,b],q2,fun g hg=>?_,by rw [ud,cH],h5⟩;obtain ⟨g,rfl,ox,iO⟩:=sc hg;refine zbS ?_;rw [ab (fun h0=>by have:=h0.2.2;rw [mx] at this;exact eH (by simpa using this))]
       ·rw [ab JN] at ud |-
        have U6:¬ is p 0 ir=true:=by rw [hi _ ar];simpa using JN
        refine ⟨one (if is p 0 ir=true then 9 else 10) (tok p 0).at_ [] [c,b],q2,fun g hg=>?_,by rw [ud,cH],h5⟩;obtain ⟨g,rfl,ox,iO⟩:=sc hg;refine zbS ?_;rw [ab (fun h0=>U6 h0.1)]
     ·rw [show p.next.e=p.e from rfl] at G;rw [G] at h |-;have h3:=hn.tr (y:=.error x) h3;refine ⟨one (if is p 0 ir=true then 9 else 10) (tok p 0).at_ [] [c,one 14 (tok (want q [41]) 0).at_ [] []],want q [41],fun g hg=>?_,h3⟩;obtain ⟨g,rfl,ox,iO⟩:=sc hg;rw [iS,iN,ah hp.code,ab vO,ah rG,I g iO];simp only;rw [Vf h3.err av];simp only;rw [ab (fun h0=>h3.err h0.2.1)]
    rw [ab hc] at h |-
    have rG:¬ (is p 0 ir=true\/is p 0 jd=true):=by rw [hi _ ar,hi _ ar];simpa using hc
    by_cases hr:sign ts 0=iR
    ·rw [ah hr]
     have sV:is p 0 iR=true:=by rw [hi _ ar];simpa using hr
     obtain ⟨tv,Bx,_⟩:=eL ar hr;have hn:=hp;rw [Bx] at hn
     have hn:=hn.next
     obtain ⟨t,q,I,G⟩:=Pm (d:=d+1) (b:=[59]) hn.1 ar;rw [show p.next.e=p.e from rfl] at G;refine ⟨one 11 (tok p 0).at_ [] [t],want q [59],fun g hg=>?_,?_⟩
     ·obtain ⟨g,rfl,ox,iO⟩:=sc hg;rw [iS,iN,ah hp.code,ab vO,ab rG,ah sV,I g iO]
     ·rcases G with ⟨r,r',G,h3,h4⟩ | ⟨r,x,G,h3,h4⟩ | ⟨x,G,h4⟩
      ·exact zfW
      ·exact zdM
      ·rw [G];exact zb5
    rw [ab hr] at h |-
    have sV:¬ is p 0 iR=true:=by rw [hi _ ar];simpa using hr
    cases ts with
    | nil =>
     have ht:tok p 0=⟨0,0,[],p.e⟩:=by rw [On.tok hp];rfl
     have nV:¬ ((tok p 0).kind=2/\is p 1 [61]=true):=fun hx=>by have:=hx.1;rw [ht] at this;simp at this
     obtain ⟨t,q,I,G⟩:=Pn (d:=d+1) hp (aI _)
     rcases G with ⟨r,G,h3⟩ | ⟨x,G,h3⟩
     ·exact zfN
     ·have nU:¬ An p q t:=fun h0=>h3.err h0.2.1
      refine ⟨one 12 (tok p 0).at_ [] [t],want q [59],fun g hg=>?_,by unfold simple;rw [G,iX h3.err];exact h3⟩;exact zbh
    | cons a r0 =>
     simp only [simple] at h |-
     have ht:tok p 0=a:=by rw [On.tok hp];rfl
     by_cases jB:a.kind=2/\sign (a::r0) 1=[61]
     ·rw [ah jB];have nV:(tok p 0).kind=2/\is p 1 [61]=true:=⟨by rw [ht];exact jB.1,by rw [CZ];simpa using jB.2⟩;obtain ⟨t,q,I,G⟩:=Sn (d:=d+1) hp
      rcases G with ⟨r,G,h3⟩ | ⟨x,G,h3⟩
      ·rw [G];refine ⟨one 7 (tok p 0).at_ (tok p 0).s [t],want q [59],fun g hg=>?_,by rw [cH];rfl,h3⟩;exact zdN
      ·rw [G];refine ⟨one 7 (tok p 0).at_ (tok p 0).s [t],want q [59],fun g hg=>?_,h3⟩;exact zdN
     ·rw [ab jB]
      have nV:¬ ((tok p 0).kind=2/\is p 1 [61]=true):=fun hx=>jB ⟨by rw [<-ht];exact hx.1,by have:=hx.2;rw [CZ] at this;simpa using this⟩
      obtain ⟨t,q,I,G⟩:=Pn (d:=d+1) hp (aI _)
      rcases G with ⟨r,G,h3⟩ | ⟨x,G,h3⟩
      ·rw [G];simp only;have mx:is q 0 [61]=decide (sign r 0=[61]):=On.is h3.1 0 ar
       by_cases lg:t.n.kind=3/\t.n.at_=a.at_/\sign r 0=[61]
       ·rw [ah lg];obtain ⟨a',pre,ht1,Xf⟩:=Q9 G;cases ht1;obtain ⟨sT,aa5,w,J0,qY⟩:=(Xf (On.srt hp hs)).2 lg.1 lg.2.1
        have abZ:xP q=[93]:=by rw [<-qY];exact On.last hp h3 (by rw [<-J0];rfl)
        have nU:An p q t:=⟨lg.1,h3.1.code,abZ,by rw [ht];exact lg.2.1,by rw [ht];exact sT,by rw [mx];simpa using lg.2.2⟩;obtain ⟨ix,Bm⟩:=Tg _ _ _ _ _ _ (fun k d out hj=>by cases hj) G lg.1
        have fM:Go.Xp.aR p.e [61] r=.ok r.tail:=by unfold Go.Xp.aR;rw [ah lg.2.2]
        have hwa:=On.want h3.1 (s:=[61]) ar;rw [h3.2.2,fM] at hwa;have hn:=h3.tr hwa;obtain ⟨v,q2,h4,h5⟩:=Pm (d:=d+1) (b:=[59]) hn.1 ar;rw [hn.2.2] at h5;rw [hn.2.1] at h4;refine ⟨one 8 (tok p 0).at_ t.n.s [ix,v],want q2 [59],fun g hg=>?_,?_⟩
        ·obtain ⟨g,rfl,ox,iO⟩:=sc hg;rw [iS,iN,ah hp.code,ab vO,ab rG,ab sV,ab nV,I g iO];simp only;rw [ah nU,Bm,h4 g iO]
        ·unfold Go.Xp.inner;rw [fM];simp only
         rcases h5 with ⟨r2,r',G,h3,h4⟩ | ⟨r2,x,G,h3,h4⟩ | ⟨x,G,h4⟩
         ·rw [G];simp only;rw [h3];exact ⟨by rw [ht,Bm];rfl,hn.tr h4⟩
         ·exact zdM
         ·rw [G];exact zb5
       ·rw [ab lg]
        have nU:¬ An p q t:=fun h0=>lg ⟨h0.1,by rw [<-ht];exact h0.2.2.2.1,by have:=h0.2.2.2.2.2;rw [mx] at this;simpa using this⟩
        refine ⟨one 12 (tok p 0).at_ [] [t],want q [59],fun g hg=>?_,?_⟩
        ·exact zbh
        ·rcases po h3.1 (s:=[59]) ar with ⟨r',h4,h5⟩ | ⟨x,h4,h5⟩
         ·rw [h3.2.2] at h4;rw [h4];exact ⟨by rw [ht],h3.tr h5⟩
         ·rw [h3.2.2] at h4;rw [h4];exact h3.tr (y:=.error x) h5
      ·rw [G]
       have nU:¬ An p q t:=fun h0=>h3.err h0.2.1
       refine ⟨one 12 (tok p 0).at_ [] [t],want q [59],fun g hg=>?_,by rw [iX h3.err];exact h3⟩;exact zbh
  ·rw [rs.body] at h |-;have hi:is p 0 [125]=decide (sign ts 0=[125]):=On.is hp 0 ar
   by_cases hb:sign ts 0=[125]
   ·rw [ah hb];have hm:=On.want hp (s:=[125]) ar;unfold Go.Xp.aR at hm;rw [ah hb] at hm;refine ⟨acc,p,fun g hg=>?_,rfl,hm⟩;obtain ⟨g,rfl,ox,iO⟩:=sc hg;rw [iB,ab (fun h0=>by have:=h0.2;rw [hi] at this;simp [hb] at this)]
   ·rw [ab hb] at h |-
    have b6:rs p.e f (.stmt d) ts≠.error bx:=fun h0=>h zgj
    obtain ⟨a,q,I,G⟩:=C.stmt d ts p hp hs b6;have hc:p.code=0/\is p 0 [125]=false:=⟨hp.code,by rw [hi];simpa using hb⟩
    cases he:rs p.e f (.stmt d) ts with
    | error x =>
     rw [he] at G h;refine ⟨acc++[a],q,fun g hg=>?_,by rw [iX (cE.err G)];exact G⟩;obtain ⟨g,rfl,ox,iO⟩:=sc hg;rw [iB,ah hc,I g ox];simp only;obtain ⟨g,rfl⟩:∃ g',g=g'+1:=⟨g - 1,by omega⟩;rw [iB,ab (fun h0=>cE.err G h0.1)]
    | ok y =>
     obtain ⟨a',r⟩:=y;rw [he] at G h;obtain ⟨rfl,G⟩:=G;simp only at h |-;rw [<-G.2.2] at h |-;obtain ⟨l,q3,h3,h4⟩:=C.body d (acc++[a]) r q G.1 (by rw [G.2.1];exact hs) h;rw [Ih G.2.1] at h3;refine ⟨l,q3,fun g hg=>?_,lO.tr G h4⟩;obtain ⟨g,rfl,ox,iO⟩:=sc hg;rw [iB,ah hc,I g ox];exact h3 g ox
section
variable {p q:RS}
theorem vA {k:Nat} (h:(tok p k).kind≠0):p.i+k < p.l.length:=by
 unfold tok at h
 refine Nat.lt_of_not_le fun hn=>?_
 rw [List.getElem?_eq_none_iff.2 hn] at h;exact h rfl
theorem is_lt {k:Nat} {s:ae} (h:is p k s=true):p.i+k < p.l.length:=by
 unfold is at h;rw [aK] at h;exact vA (by have:=h.1;simp at this;omega)
theorem mF {s:ae} (h:is p 0 s=true):p.to p.next:=cX (is_lt h)
theorem Ax (hp:p.ok):p.to (nr p):=l6 hp _ _
theorem dq (hp:p.ok) (s:ae):p.to (want p s):=by
 unfold want;split
 ·split
  ·rename_i h;exact mF h
  ·exact Ax hp
 ·exact ll hp
theorem kv (hp:p.ok):p.to (bO p):=by
 unfold bO;split
 ·split
  ·rename_i h;split
   ·exact zfL
   ·exact cX (vA (k:=0) av)
  ·exact Ax hp
 ·exact ll hp
theorem xW (hp:p.ok) (d:Nat):p.to (cP p d):=by
 unfold cP;split
 ·exact zfL
 ·exact ll hp
theorem rW {d:Nat} (h:(cP p d).code=0):cP p d=p:=by
 unfold cP at h |-;split at h
 ·unfold RS.fail at h;split at h
  ·cases h
  ·rename_i hd hc;exact absurd h hc
 ·rename_i hd;rw [ab hd]
end
theorem lU:∀ (f:Nat),(∀ j p t q,p.ok->iE f j p=some (t,q)->p.to q)/\(∀ d acc p l q,p.ok->iA f d acc p=some (l,q)->p.to q)
 | 0=>⟨fun j p t q _ h=>by simp [iE] at h,fun d acc p l q _ h=>by simp [iA] at h⟩
 | f+1=>by
  obtain ⟨I,G⟩:=lU f;refine ⟨fun j p t q hp h=>?_,fun d acc p l q hp h=>?_⟩
  ·cases j with
   | expr d =>
    rw [iE] at h;have hd:=xW hp d;split at h
    ·exact hd.trans (I _ _ _ _ (hd.ok hp) h)
    ·cases h;exact hd
   | level k d =>
    rw [iE] at h;split at h
    ·exact I _ _ _ _ hp h
    ·split at h
     ·cases h
     ·rename_i out p' he;have:=I _ _ _ _ hp he;exact zcN
   | loop k d out =>
    rw [iE] at h;split at h
    ·rename_i hc;have hn:=cX (p:=p) (vA (k:=0) (by have:=hc.2.1;omega));split at h
     ·cases h
     ·exact zeX
    ·cases h;exact ll hp
   | operand d =>
    rw [iE] at h;split at h
    ·split at h
     ·rename_i hc
      have hn:p.to p.next:=by rcases hc with hc | hc | hc <;> exact mF hc
      split at h
      ·cases h
      ·rename_i a p' he
       cases h;exact hn.trans (I _ _ _ _ (hn.ok hp) he)
     ·split at h
      ·rename_i hk
       cases h;exact cX (vA (k:=0) av)
      ·split at h
       ·rename_i hc;have hn:=mF hc;split at h
        ·cases h
        ·rename_i a p' he;have:=hn.trans (I _ _ _ _ (hn.ok hp) he)
         cases h;exact zbH
       ·have hn:=kv hp;split at h
        ·split at h
         ·rename_i hc;have cx:=hn.trans (mF hc);split at h
          ·cases h
          ·rename_i a p' he;have:=cx.trans (I _ _ _ _ (cx.ok hp) he)
           cases h;exact zbH
         ·split at h
          ·rename_i hc;have cx:=hn.trans (mF hc);split at h
           ·cases h
           ·rename_i a p' he
            cases h;exact cx.trans (G _ _ _ _ _ (cx.ok hp) he)
          ·cases h;exact hn
        ·cases h;exact hn
    ·cases h;exact xW hp d
  ·rw [iA] at h;split at h
   ·have hn:p.to (if acc.length=0 then p else want p [44]):=by
     split
     ·exact ll hp
     ·exact dq hp _
    split at h
    ·cases h
    ·rename_i a p' he;have:=hn.trans (I _ _ _ _ (hn.ok hp) he);exact zd0
   ·cases h;exact dq hp _
theorem Iq:∀ (f:Nat),(∀ j p t q,p.ok->iS f j p=some (t,q)->p.to q)/\(∀ d acc p l q,p.ok->iB f d acc p=some (l,q)->p.to q)
 | 0=>⟨fun j p t q _ h=>by simp [iS] at h,fun d acc p l q _ h=>by simp [iB] at h⟩
 | f+1=>by
  obtain ⟨I,G⟩:=Iq f;have yN:=(lU f).1;refine ⟨fun j p t q hp h=>?_,fun d acc p l q hp h=>?_⟩
  ·cases j with
   | block d =>
    rw [iS] at h;split at h
    ·have hm:=dq hp [123];split at h
     ·cases h
     ·rename_i l p' he;have:=hm.trans (G _ _ _ _ _ (hm.ok hp) he)
      cases h;exact zbH
    ·cases h;exact xW hp d
   | stmt d =>
    rw [iS] at h;split at h
    ·split at h
     ·rename_i hs;have hn:=mF hs;have dF:=hn.trans (kv (hn.ok hp));have fM:=dF.trans (dq (dF.ok hp) [61]);split at h
      ·cases h
      ·rename_i e p' he;have:=fM.trans (yN _ _ _ _ (fM.ok hp) he)
       cases h;exact zbH
     ·split at h
      ·rename_i hs
       have hn:p.to p.next:=by rcases hs with hs | hs <;> exact mF hs
       have fM:=hn.trans (dq (hn.ok hp) [40]);split at h
       ·cases h
       ·rename_i e p' he;have:=fM.trans (yN _ _ _ _ (fM.ok hp) he);have py:=this.trans (dq (this.ok hp) [41]);split at h
        ·cases h
        ·rename_i b p2 hb;have eM:=py.trans (I _ _ _ _ (py.ok hp) hb);split at h
         ·rename_i hc;have cx:=eM.trans (mF hc.2.2);split at h
          ·cases h
          ·rename_i b2 p3 wM
           cases h;exact cx.trans (I _ _ _ _ (cx.ok hp) wM)
         ·cases h;exact eM
      ·split at h
       ·rename_i hs;have hn:=mF hs;split at h
        ·cases h
        ·rename_i e p' he;have:=hn.trans (yN _ _ _ _ (hn.ok hp) he)
         cases h;exact zbH
       ·split at h
        ·have dF:=kv hp;have fM:=dF.trans (dq (dF.ok hp) [61]);split at h
         ·cases h
         ·rename_i e p' he;have:=fM.trans (yN _ _ _ _ (fM.ok hp) he)
          cases h;exact zbH
        ·split at h
         ·cases h
         ·rename_i e p' he;have hx:=yN _ _ _ _ hp he;split at h
          ·have hn:=hx.trans (dq (hx.ok hp) [61]);split at h
           ·rename_i a r v p2 hk oU;have:=hn.trans (yN _ _ _ _ (hn.ok hp) oU)
            cases h;exact zbH
           ·cases h
          ·cases h;exact hx.trans (dq (hx.ok hp) _)
    ·cases h;exact xW hp d
  ·rw [iB] at h;split at h
   ·split at h
    ·cases h
    ·rename_i a p' he;have:=I _ _ _ _ hp he;exact zd0
   ·cases h;exact ll hp
theorem za (p:RS):p.next.i=p.i+1:=rfl
theorem aaH:∀ (f:Nat) j p t q,p.ok->iE f j p=some (t,q)->q.code=0->(∀ k d out,j≠.loop k d out)->p.i < q.i:=by
 intro f
 induction f with
 | zero=>intro j p t q _ h;simp [iE] at h
 | succ f ih =>
  intro j p t q hp h hq hj
  cases j with
  | loop k d out=>exact absurd rfl (hj k d out)
  | expr d =>
   rw [iE] at h;split at h
   ·rename_i hc;rw [rW hc] at h;exact ih _ _ _ _ hp h hq (fun k d out h=>by cases h)
   ·rename_i hc;cases h;exact absurd hq hc
  | level k d =>
   rw [iE] at h;split at h
   ·exact ih _ _ _ _ hp h hq (fun k d out h=>by cases h)
   ·split at h
    ·cases h
    ·rename_i out p' he;have mH:=(lU f).1 _ _ _ _ hp he
     have au:p'.code=0:=by
      by_cases hc:p'.code=0
      ·exact hc
      ·cases f with
       | zero=>simp [iE] at h
       | succ f =>
        rw [iE,ab (fun h0=>hc h0.1)] at h
        cases h;exact hq
     have I:=ih _ _ _ _ hp he au (fun k d out h=>by cases h);have G:=(lU f).1 _ _ _ _ (mH.ok hp) h;have:=G.2.2.2;omega
  | operand d =>
   rw [iE] at h;split at h
   ·split at h
    ·rename_i hc
     have hn:p.to p.next:=by rcases hc with hc | hc | hc <;> exact mF hc
     split at h
     ·cases h
     ·rename_i a p' he;cases h;have:=((lU f).1 _ _ _ _ (hn.ok hp) he).2.2.2;rw [za] at this;omega
    ·split at h
     ·cases h;rw [za];omega
     ·split at h
      ·rename_i hc;have hn:=mF hc;split at h
       ·cases h
       ·rename_i a p' he;cases h;have I:=(lU f).1 _ _ _ _ (hn.ok hp) he;have G:=(dq ((I.ok (hn.ok hp))) [41]).2.2.2;have:=I.2.2.2;rw [za] at this;omega
      ·have hn:=kv hp;split at h
       ·rename_i kC
        have au:p.i < (bO p).i:=by
         unfold bO at kC |-;split at kC
         ·rename_i h0;split at kC
          ·rename_i G;split at kC
           ·unfold RS.fail at kC;rw [ah h0] at kC;cases kC
           ·rename_i hl;rw [ah h0,ah G,ab hl,za];omega
          ·unfold nr RS.fail at kC;rw [ah h0] at kC;cases kC
         ·rename_i h0;exact absurd kC h0
        split at h
        ·rename_i hc;have cx:=hn.trans (mF hc);split at h
         ·cases h
         ·rename_i a p' he;cases h;have I:=(lU f).1 _ _ _ _ (cx.ok hp) he;have G:=(dq ((I.ok (cx.ok hp))) [93]).2.2.2;have:=I.2.2.2;rw [za] at this;omega
        ·split at h
         ·rename_i hc;have cx:=hn.trans (mF hc);split at h
          ·cases h
          ·rename_i a p' he;cases h;have:=((lU f).2 _ _ _ _ _ (cx.ok hp) he).2.2.2;rw [za] at this;omega
         ·cases h;exact au
       ·rename_i kC;cases h;exact absurd hq kC
   ·rename_i hc;cases h;exact absurd hq hc
end Go.Im
namespace Go.Xp
mutual
def aQ:T->Nat
 | .mk _ l=>aB l+1
def aB:List T->Nat
 | []=>0
 | t::r=>aQ t+aB r
end
def bJ:Nat->List T->List Int
 | _,[]=>[]
 | n,t::r=>(n:Int)::bJ (n+aQ t) r
mutual
def jJ:Nat->T->List Nd
 | n,.mk nd l=>⟨nd.kind,nd.at_,nd.n,nd.s,bJ (n+1) l⟩::eD (n+1) l
def eD:Nat->List T->List Nd
 | _,[]=>[]
 | n,t::r=>jJ n t++eD (n+aQ t) r
end
theorem fH (t:T):aQ t=aB t.kids+1:=by cases t;rw [aQ];rfl
theorem Rq (n:Nat) (t:T):jJ n t=⟨t.n.kind,t.n.at_,t.n.n,t.n.s,bJ (n+1) t.kids⟩::eD (n+1) t.kids:=by cases t;rw [jJ];rfl
theorem qu (a b:List T):aB (a++b)=aB a+aB b:=by
 induction a with
 | nil=>simp [aB]
 | cons t a ih=>simp only [cons_append,aB,ih];omega
theorem zX (a b:List T) (n:Nat):bJ n (a++b)=bJ n a++bJ (n+aB a) b:=by
 induction a generalizing n with
 | nil=>simp [bJ,aB]
 | cons t a ih=>simp only [cons_append,bJ,aB,ih,iJ]
theorem Ci (a b:List T) (n:Nat):eD n (a++b)=eD n a++eD (n+aB a) b:=by
 induction a generalizing n with
 | nil=>simp [eD,aB]
 | cons t a ih=>simp only [cons_append,eD,aB,ih,iJ,eF]
theorem dy (a:List T) (n:Nat):(bJ n a).length=a.length:=by
 induction a generalizing n with
 | nil=>rfl
 | cons t a ih=>simp [bJ,ih]
theorem Rr:∀ (N:Nat),(∀ t:T,aQ t<=N->∀ n,(jJ n t).length=aQ t)/\(∀ l:List T,aB l<=N->∀ n,(eD n l).length=aB l):=by
 intro N
 induction N with
 | zero =>
  refine ⟨fun t h=>by rw [fH] at h;omega,fun l h n=>?_⟩
  cases l with
  | nil=>rfl
  | cons t l=>rw [aB,fH] at h;omega
 | succ N ih =>
  have I:∀ t:T,aQ t<=N+1->∀ n,(jJ n t).length=aQ t:=fun t h n=>by
   rw [fH] at h;rw [Rq,fH,length_cons,ih.2 _ av]
  refine ⟨I,fun l=>?_⟩
  induction l with
  | nil=>intro _ n;rfl
  | cons t l ih2 =>
   intro h n;rw [aB] at h;rw [eD,aL,I t av,ih2 av,aB]
theorem MS (t:T) (n:Nat):(jJ n t).length=aQ t:=(Rr (aQ t)).1 t (aI _) n
theorem wc (l:List T) (n:Nat):(eD n l).length=aB l:=(Rr (aB l)).2 l (aI _) n
theorem yj (l:List T) (k:Nat):aB (l.take k)<=aB l:=by
 have:aB l=aB (l.take k)+aB (l.drop k):=by rw [<-qu,List.take_append_drop]
 omega
theorem yk {l:List T} {k:Nat} {t:T} (h:l[k]?=some t):aB (l.take (k+1))=aB (l.take k)+aQ t:=by
 have:l.take (k+1)=l.take k++[t]:=by rw [dk,h];rfl
 rw [this,qu,aB,aB];rfl
theorem eI (l:List T):l.length<=aB l:=by
 induction l with
 | nil=>simp
 | cons t l ih=>rw [aB,fH,length_cons];omega
open Go.Sp (bT jc)
abbrev K:=Int × Int × ae
def kf (t:Tok):K:=(t.kind,t.n,t.s)
abbrev kS (s:ae):K:=(3,0,s)
abbrev kN (s:ae):K:=(2,0,s)
abbrev kI (n:Int):K:=(1,n,[])
inductive E where
 | num (n:Int)
 | name (s:ae)
 | at_ (s:ae) (a:E)
 | call (s:ae) (l:List E)
 | un (s:ae) (a:E)
 | bin (s:ae) (a b:E)
def fw (s:ae):Nat:=(levels.findIdx? fun l=>l.contains s).getD 9
def E.lv:E->Nat
 | .bin s _ _=>fw s
 | _=>9
def brk (lv k:Nat) (x:List K):List K:=if lv < k then kS [40]::(x++[kS [41]]) else x
mutual
def E.tk:E->List K
 | .num n=>[kI n]
 | .name s=>[kN s]
 | .at_ s a=>kN s::kS [91]::(a.tk++[kS [93]])
 | .call s l=>kN s::kS [40]::(E.qn l++[kS [41]])
 | .un s a=>kS s::brk a.lv 9 a.tk
 | .bin s a b=>brk a.lv (fw s) a.tk++kS s::brk b.lv (fw s+1) b.tk
def E.qn:List E->List K
 | []=>[]
 | a::l=>a.tk++E.tW l
def E.tW:List E->List K
 | []=>[]
 | a::l=>kS [44]::(a.tk++E.tW l)
end
mutual
def E.tree:E->T
 | .num n=>.mk ⟨1,0,n,[],[]⟩ []
 | .name s=>.mk ⟨2,0,0,s,[]⟩ []
 | .at_ s a=>.mk ⟨3,0,0,s,[]⟩ [a.tree]
 | .call s l=>.mk ⟨4,0,0,s,[]⟩ (E.trees l)
 | .un s a=>.mk ⟨5,0,0,s,[]⟩ [a.tree]
 | .bin s a b=>.mk ⟨6,0,0,s,[]⟩ [a.tree,b.tree]
def E.trees:List E->List T
 | []=>[]
 | a::l=>a.tree::E.trees l
end
def My (lv k d:Nat) (f:Nat->Bool):Bool:=if lv < k then decide (d<=60)&&decide (d+1<=60)&&f (d+2) else f d
mutual
def E.fit:E->Nat->Bool
 | .num _,d=>decide (d<=60)
 | .name _,d=>decide (d<=60)
 | .at_ _ a,d=>decide (d<=60)&&decide (d+1<=60)&&a.fit (d+2)
 | .call _ l,d=>decide (d<=60)&&E.fits l (d+1)
 | .un _ a,d=>decide (d<=60)&&(if a.lv < 9 then decide (d+1<=60)&&decide (d+2<=60)&&a.fit (d+3) else a.fit (d+1))
 | .bin s a b,d=>(if a.lv < fw s then decide (d<=60)&&decide (d+1<=60)&&a.fit (d+2) else a.fit d)&&(if b.lv < fw s+1 then decide (d<=60)&&decide (d+1<=60)&&b.fit (d+2) else b.fit d)
def E.fits:List E->Nat->Bool
 | [],_=>true
 | a::l,d=>decide (d<=60)&&a.fit (d+1)&&E.fits l d
end
mutual
def E.ok:E->Bool
 | .num n=>decide (0<=n)&&decide (n<=2147483647)
 | .name s=>bT s
 | .at_ s a=>bT s&&a.ok
 | .call s l=>bT s&&E.dT l
 | .un s a=>(s==[45] || s==[33] || s==[126])&&a.ok
 | .bin s a b=>jc s&&a.ok&&b.ok
def E.dT:List E->Bool
 | []=>true
 | a::l=>a.ok&&E.dT l
end
mutual
def er:T->T
 | .mk n l=>.mk ⟨n.kind,0,n.n,n.s,[]⟩ (bf l)
def bf:List T->List T
 | []=>[]
 | t::l=>er t::bf l
end
theorem MN (l k:List T):bf (l++k)=bf l++bf k:=by
 induction l with
 | nil=>rfl
 | cons t l ih=>simp [bf,ih]
theorem wb (l:List T):bf l=l.map er:=by
 induction l with
 | nil=>rfl
 | cons t l ih=>simp [bf,ih]
theorem eW (k a:Int) (s:ae) (l:List T):er (one k a s l)=.mk ⟨k,0,0,s,[]⟩ (bf l):=by unfold one;rw [er]
def Ev (e:Int) (j:xv) (ts:List Tok) (x:Rd T):Prop:=∃ f0,∀ f,f0<=f->rd e f j ts=x
def Ea (e:Int) (d:Nat) (acc:List T) (ts:List Tok) (x:Rd (List T)):Prop:=∃ f0,∀ f,f0<=f->rd.args e f d acc ts=x
section
variable {e:Int} {d k:Nat} {ts r:List Tok} {t out:T} {x:Rd T} {y:Er}
theorem CQ {j j':xv} {ts lz:List Tok} {x x':Rd T} (h:Ev e j ts x) (hs:∀ f,rd e f j ts=x->rd e (f+1) j' lz=x'):Ev e j' lz x':=by
 exact zcq
theorem ev2 {j j' j2:xv} {ts lz zq:List Tok} {x x' x2:Rd T} (h:Ev e j ts x) (G:Ev e j2 zq x2) (hs:∀ f,rd e f j ts=x->rd e f j2 zq=x2->rd e (f+1) j' lz=x'):Ev e j' lz x':=by
 exact zbO
theorem Q6 {j':xv} {lz:List Tok} {x':Rd T} (hs:∀ f,rd e (f+1) j' lz=x'):Ev e j' lz x' :=
 ⟨1,fun f hf=>by obtain ⟨f,rfl⟩:∃ g,f=g+1:=⟨f - 1,by omega⟩;exact hs f⟩
theorem Ev.expr (hd:d<=60) (h:Ev e (.level 0 (d+1)) ts x):Ev e (.expr d) ts x:=CQ h fun f h=>by rw [rd,ab av];exact h
theorem Ev.abP (hd:60 < d):Ev e (.expr d) ts (.error (9,place e ts)):=Q6 fun f=>by rw [rd,ah hd]
theorem Ev.level (hk:k≠9) (h:Ev e (.level (k+1) d) ts (.ok (out,r))) (G:Ev e (.loop k d out) r x):Ev e (.level k d) ts x:=ev2 h G fun f h G=>by rw [rd,ab hk,h];exact G
theorem Ev.aaM (hk:k≠9) (h:Ev e (.level (k+1) d) ts (.error y)):Ev e (.level k d) ts (.error y):=CQ h fun f h=>by rw [rd,ab hk,h]
theorem Ev.Kg (h:Ev e (.operand d) ts x):Ev e (.level 9 d) ts x:=CQ h fun f h=>by rw [rd,ah rfl];exact h
theorem Ev.stop (h:sign ts 0 ∉ levels.getD k []):Ev e (.loop k d out) ts (.ok (out,ts)):=Q6 fun f=>by
 cases ts with
 | nil=>rw [rd]
 | cons t r =>
  rw [rd,ab];rintro ⟨h3,h4⟩;apply h;simp only [sign,getElem?_cons_zero,dZ,h3,if_true];exact h4
theorem Ev.go {t:Tok} {b:T} {r':List Tok} (h3:t.kind=3) (hs:t.s∈levels.getD k []) (h:Ev e (.level (k+1) d) r (.ok (b,r'))) (G:Ev e (.loop k d (one 6 t.at_ t.s [out,b])) r' x):Ev e (.loop k d out) (t::r) x :=
 ev2 h G fun f h G=>by rw [rd,ah ⟨h3,hs⟩,h];exact G
theorem Ev.goX {t:Tok} (h3:t.kind=3) (hs:t.s∈levels.getD k []) (h:Ev e (.level (k+1) d) r (.error y)):Ev e (.loop k d out) (t::r) (.error y) :=
 CQ h fun f h=>by rw [rd,ah ⟨h3,hs⟩,h]
theorem Ev.WB (hd:60 < d):Ev e (.operand d) ts (.error (9,place e ts)):=Q6 fun f=>by rw [rd.eq_def];simp only;rw [ah hd]
theorem Ev.num {t:Tok} (hd:d<=60) (h:t.kind=1):Ev e (.operand d) (t::r) (.ok (.mk ⟨1,t.at_,t.n,[],[]⟩ [],r)):=Q6 fun f=>by
 rw [rd.eq_def];simp only;rw [ab av,ab av,ah h]
theorem Ev.un {t:Tok} {a:T} {r':List Tok} (hd:d<=60) (h3:t.kind=3) (hs:t.s=[45]\/t.s=[33]\/t.s=[126]) (h:Ev e (.operand (d+1)) r (.ok (a,r'))):Ev e (.operand d) (t::r) (.ok (one 5 t.at_ t.s [a],r')) :=
 CQ h fun f h=>by rw [rd.eq_def];simp only;rw [ab av,ah h3,ah hs,h]
theorem Ev.unX {t:Tok} (hd:d<=60) (h3:t.kind=3) (hs:t.s=[45]\/t.s=[33]\/t.s=[126]) (h:Ev e (.operand (d+1)) r (.error y)):Ev e (.operand d) (t::r) (.error y) :=
 CQ h fun f h=>by rw [rd.eq_def];simp only;rw [ab av,ah h3,ah hs,h]
theorem Ev.par {t u:Tok} {a:T} {r':List Tok} (hd:d<=60) (h3:t.kind=3) (hs:t.s=[40]) (hu:u.kind=3) (iP:u.s=[41]) (h:Ev e (.expr (d+1)) r (.ok (a,u::r'))):Ev e (.operand d) (t::r) (.ok (a,r')) :=
 CQ h fun f h=>by
  rw [rd.eq_def];simp only;rw [ab av,ah h3,ab zgt,ah hs,h];simp only [aR,sign,getElem?_cons_zero,dZ,hu,if_true,iP,tail_cons]
theorem Ev.adV {t:Tok} (hd:d<=60) (h3:t.kind=3) (hs:t.s=[40]) (h:Ev e (.expr (d+1)) r (.error y)):Ev e (.operand d) (t::r) (.error y) :=
 CQ h fun f h=>by rw [rd.eq_def];simp only;rw [ab av,ah h3,ab zgt,ah hs,h]
theorem wg {t:Tok} (G:t.kind=2) (hl:t.s.length<=12):name e (t::r)=.ok (t.s,r):=by
 simp only [name,G,if_true];rw [ab av]
theorem Ev.name {t:Tok} (hd:d<=60) (G:t.kind=2) (hl:t.s.length<=12) (n1:sign r 0≠[91]) (n2:sign r 0≠[40]):Ev e (.operand d) (t::r) (.ok (one 2 t.at_ t.s [],r)):=Q6 fun f=>by
 refine zbx ?_;rw [ab n1,ab n2]
theorem Ev.ix {t u w:Tok} {a:T} {r':List Tok} (hd:d<=60) (G:t.kind=2) (hl:t.s.length<=12) (hu:u.kind=3) (iP:u.s=[91]) (hw:w.kind=3) (Hp:w.s=[93]) (h:Ev e (.expr (d+1)) r (.ok (a,w::r'))):Ev e (.operand d) (t::u::r) (.ok (one 3 t.at_ t.s [a],r')) :=
 CQ h fun f h=>by
  refine zbx ?_;rw [ah (by simp only [sign,getElem?_cons_zero,dZ,hu,if_true,iP]),tail_cons,h];simp only [aR,sign,getElem?_cons_zero,dZ,hw,if_true,Hp,tail_cons]
theorem Ev.ixX {t u:Tok} (hd:d<=60) (G:t.kind=2) (hl:t.s.length<=12) (hu:u.kind=3) (iP:u.s=[91]) (h:Ev e (.expr (d+1)) r (.error y)):Ev e (.operand d) (t::u::r) (.error y) :=
 CQ h fun f h=>by
  refine zbx ?_;rw [ah (by simp only [sign,getElem?_cons_zero,dZ,hu,if_true,iP]),tail_cons,h]
theorem Ev.call {t u:Tok} {l:List T} {r':List Tok} (hd:d<=60) (G:t.kind=2) (hl:t.s.length<=12) (hu:u.kind=3) (iP:u.s=[40]) (h:Ea e (d+1) [] r (.ok (l,r'))):Ev e (.operand d) (t::u::r) (.ok (one 4 t.at_ t.s l,r')):=by
 obtain ⟨f0,h0⟩:=h;refine ⟨f0+1,fun f hf=>?_⟩;obtain ⟨f,rfl⟩:∃ g,f=g+1:=⟨f - 1,by omega⟩
 have hs:sign (u::r) 0=[40]:=by simp only [sign,getElem?_cons_zero,dZ,hu,if_true,iP]
 exact zfc
theorem Ev.abH {t u:Tok} (hd:d<=60) (G:t.kind=2) (hl:t.s.length<=12) (hu:u.kind=3) (iP:u.s=[40]) (h:Ea e (d+1) [] r (.error y)):Ev e (.operand d) (t::u::r) (.error y):=by
 obtain ⟨f0,h0⟩:=h;refine ⟨f0+1,fun f hf=>?_⟩;obtain ⟨f,rfl⟩:∃ g,f=g+1:=⟨f - 1,by omega⟩
 have hs:sign (u::r) 0=[40]:=by simp only [sign,getElem?_cons_zero,dZ,hu,if_true,iP]
 exact zfc
theorem Ea.nil {u:Tok} {acc:List T} (hu:u.kind=3) (iP:u.s=[41]):Ea e d acc (u::r) (.ok (acc,r)):=⟨1,fun f hf=>by
 obtain ⟨f,rfl⟩:∃ g,f=g+1:=⟨f - 1,by omega⟩
 have hs:sign (u::r) 0=[41]:=by simp only [sign,getElem?_cons_zero,dZ,hu,if_true,iP]
 rw [rd.args,ah hs];rfl⟩
theorem Ea.first {a:T} {r':List Tok} {x:Rd (List T)} (hs:sign r 0≠[41]) (h:Ev e (.expr d) r (.ok (a,r'))) (G:Ea e d [a] r' x):Ea e d [] r x:=by
 obtain ⟨f0,h0⟩:=h;obtain ⟨ef,I⟩:=G;refine ⟨f0+ef+1,fun f hf=>?_⟩;obtain ⟨f,rfl⟩:∃ g,f=g+1:=⟨f - 1,by omega⟩;rw [rd.args,ab hs,ah rfl];simp only;rw [h0 f av];exact I f av
theorem Ea.aaa {a:T} (hs:sign r 0≠[41]) (h:Ev e (.expr d) r (.error y)):Ea e d [] r (.error y):=by
 obtain ⟨f0,h0⟩:=h;refine ⟨f0+1,fun f hf=>?_⟩;obtain ⟨f,rfl⟩:∃ g,f=g+1:=⟨f - 1,by omega⟩;rw [rd.args,ab hs,ah rfl];simp only;rw [h0 f av]
theorem Ea.more {u:Tok} {acc:List T} {a:T} {r':List Tok} {x:Rd (List T)} (ha:acc≠[]) (hu:u.kind=3) (iP:u.s=[44]) (h:Ev e (.expr d) r (.ok (a,r'))) (G:Ea e d (acc++[a]) r' x):Ea e d acc (u::r) x:=by
 obtain ⟨f0,h0⟩:=h;obtain ⟨ef,I⟩:=G;refine ⟨f0+ef+1,fun f hf=>?_⟩;obtain ⟨f,rfl⟩:∃ g,f=g+1:=⟨f - 1,by omega⟩
 have hs:sign (u::r) 0=[44]:=by simp only [sign,getElem?_cons_zero,dZ,hu,if_true,iP]
 rw [rd.args,ab zgt,ab ha,aR,ah hs];simp only [tail_cons];rw [h0 f av];exact I f av
theorem Ea.ack {u:Tok} {acc:List T} (ha:acc≠[]) (hu:u.kind=3) (iP:u.s=[44]) (h:Ev e (.expr d) r (.error y)):Ea e d acc (u::r) (.error y):=by
 obtain ⟨f0,h0⟩:=h;refine ⟨f0+1,fun f hf=>?_⟩;obtain ⟨f,rfl⟩:∃ g,f=g+1:=⟨f - 1,by omega⟩
 have hs:sign (u::r) 0=[44]:=by simp only [sign,getElem?_cons_zero,dZ,hu,if_true,iP]
 rw [rd.args,ab zgt,ab ha,aR,ah hs];simp only [tail_cons];rw [h0 f av]
structure Stop (r:List Tok) (k:Nat):Prop where
 a:sign r 0≠[91]
 b:sign r 0≠[40]
 c:∀ j,k < j->sign r 0 ∉ levels.getD j []
theorem Stop.mono {k':Nat} (h:Stop r k) (hk:k<=k'):Stop r k':=⟨h.a,h.b,fun j hj=>h.c j av⟩
theorem Ev.lift {m:Nat} (h:Ev e (.level m d) ts (.ok (t,r))) (hm:m<=9) (hs:Stop r k):∀ n,m=k+1+n->Ev e (.loop k d t) r x->Ev e (.level k d) ts x:=by
 intro n
 induction n generalizing m with
 | zero=>intro he G;exact Ev.level av (by rw [<-he];exact h) G
 | succ n ih =>
  intro he G;exact ih (m:=k+1+n) (Ev.level av (by rw [show k+1+n+1=m by omega];exact h) (Ev.stop (hs.c _ av))) av rfl G
theorem Ev.Xu {m:Nat} (h:Ev e (.level m d) ts (.error y)) (hm:m<=9):∀ n,m=k+n->Ev e (.level k d) ts (.error y):=by
 intro n
 induction n generalizing m with
 | zero=>intro he;subst he;exact h
 | succ n ih=>intro he;exact ih (m:=k+n) (Ev.aaM av (by rw [show k+n+1=m by omega];exact h)) av rfl
def Rt (e:Int) (k d:Nat) (ts rest:List Tok) (Q:T->Prop) (b:Bool):Prop :=
 (b=true->∃ t,Q t/\(k < 9->∀ x,Ev e (.loop k d t) rest x->Ev e (.level k d) ts x)/\(k=9->Ev e (.level 9 d) ts (.ok (t,rest))))/\(b=false->∃ pos,Ev e (.level k d) ts (.error (9,pos)))
def Ro (e:Int) (d:Nat) (ts rest:List Tok) (Q:T->Prop) (b:Bool):Prop :=
 (b=true->∃ t,Q t/\Ev e (.operand d) ts (.ok (t,rest)))/\(b=false->∃ pos,Ev e (.operand d) ts (.error (9,pos)))
def Rx (e:Int) (d:Nat) (ts rest:List Tok) (Q:T->Prop) (b:Bool):Prop :=
 (b=true->∃ t,Q t/\Ev e (.expr d) ts (.ok (t,rest)))/\(b=false->∃ pos,Ev e (.expr d) ts (.error (9,pos)))
theorem Ro.rt {rest:List Tok} {Q:T->Prop} {b:Bool} (h:Ro e d ts rest Q b) (hk:k<=9) (hs:Stop rest k):Rt e k d ts rest Q b:=by
 refine ⟨fun hb=>?_,fun hb=>?_⟩
 ·obtain ⟨t,I,G⟩:=h.1 hb;exact ⟨t,I,fun C0 x h3=>Ev.lift (Ev.Kg G) (aI _) hs (8 - k) av h3,fun _=>Ev.Kg G⟩
 ·obtain ⟨pos,I⟩:=h.2 hb;exact ⟨pos,Ev.Xu (Ev.Kg I) (aI _) (9 - k) av⟩
theorem Rt.down {rest:List Tok} {Q:T->Prop} {b:Bool} {m:Nat} (h:Rt e m d ts rest Q b) (hm:m < 9) (hk:k<=m) (hs:Stop rest k):Rt e k d ts rest Q b:=by
 rcases Nat.lt_or_ge k m with au | kP
 ·refine ⟨fun hb=>?_,fun hb=>?_⟩
  ·obtain ⟨t,I,G,_⟩:=h.1 hb;have h3:=G hm _ (Ev.stop (hs.c m au));exact ⟨t,I,fun C0 x h4=>Ev.lift h3 av hs (m - 1 - k) av h4,fun h9=>by omega⟩
  ·obtain ⟨pos,I⟩:=h.2 hb;exact ⟨pos,Ev.Xu I av (m - k) av⟩
 ·obtain rfl:k=m:=by omega
  exact h
theorem Rt.rx {rest:List Tok} {Q:T->Prop} {b:Bool} (h:Rt e 0 (d+1) ts rest Q b) (hs:sign rest 0 ∉ levels.getD 0 []):Rx e d ts rest Q (decide (d<=60)&&b):=by
 by_cases hd:d<=60
 ·have:(decide (d<=60)&&b)=b:=by simp [hd]
  rw [this];refine ⟨fun hb=>?_,fun hb=>?_⟩
  ·obtain ⟨t,I,G,_⟩:=h.1 hb;exact ⟨t,I,Ev.expr hd (G av _ (Ev.stop hs))⟩
  ·obtain ⟨pos,I⟩:=h.2 hb;exact ⟨pos,Ev.expr hd I⟩
 ·have:(decide (d<=60)&&b)=false:=by simp [hd]
  rw [this];exact ⟨fun hb=>zhb,fun _=>⟨_,Ev.abP av⟩⟩
end
theorem Ev.XB {e:Int} {d:Nat} {ts:List Tok} {x:Rd T} (h:Ev e (.level 9 d) ts x):Ev e (.operand d) ts x:=by
 obtain ⟨f0,h0⟩:=h;refine ⟨f0,fun f hf=>?_⟩;have:=h0 (f+1) av;rw [rd,ah rfl] at this;exact this
theorem Ro.XB {e:Int} {d:Nat} {ts rest:List Tok} {Q:T->Prop} {b:Bool} (h:Rt e 9 d ts rest Q b):Ro e d ts rest Q b :=
 ⟨fun hb=>by obtain ⟨t,I,_,G⟩:=h.1 hb;exact ⟨t,I,(G rfl).XB⟩,fun hb=>by obtain ⟨pos,I⟩:=h.2 hb;exact ⟨pos,I.XB⟩⟩
theorem wo {t:Tok} {r:List Tok} {s:ae} (h:kf t=kS s):sign (t::r) 0=s:=by
 simp only [kf,kS,Prod.mk.injEq] at h;simp only [sign,getElem?_cons_zero,dZ,h.1,if_true,h.2.2]
theorem Gj {t:Tok} {r:List Tok} (h:t.kind≠3):sign (t::r) 0=[]:=by
 simp only [sign,getElem?_cons_zero,dZ,ab h]
theorem NC {j:Nat} (h:9<=j):levels.getD j []=[]:=by
 rw [List.getD_eq_getElem?_getD,getElem?_eq_none (by simpa [levels] using h)];rfl
theorem HV {r:List Tok} {s:ae} (h:sign r 0=s) (hs:s=[]\/s=[41]\/s=[93]\/s=[44]\/s=[59]\/s=[61]):Stop r 0:=by
 have h9:∀ j,j < 9->∀ s:ae,(s=[]\/s=[41]\/s=[93]\/s=[44]\/s=[59]\/s=[61])->s ∉ levels.getD j []:=by
  intro j hj s hs
  have:∀ j,j < 9->∀ s∈([[],[41],[93],[44],[59],[61]]:List ae),s ∉ levels.getD j []:=by decide
  exact this j hj s (by simpa using hs)
 refine ⟨?_,?_,fun j _=>?_⟩
 ·exact zcu
 ·exact zcu
 ·rw [h]
  rcases Nat.lt_or_ge j 9 with h0 | h0
  ·exact h9 j h0 s hs
  ·rw [NC h0];simp
theorem Fk {r:List Tok} {s:ae} (h:sign r 0=s) (hs:s=[]\/s=[41]\/s=[93]\/s=[44]\/s=[59]\/s=[61]):sign r 0 ∉ levels.getD 0 []:=by
 exact zcu
theorem s9 {s:ae} (h:jc s=true):fw s < 9/\s∈levels.getD (fw s) []/\s≠[91]/\s≠[40]/\∀ j,fw s < j->s ∉ levels.getD j []:=by
 have hm:s∈levels.flatten:=by
  exact zc4
 have key:∀ s∈levels.flatten,fw s < 9/\s∈levels.getD (fw s) []/\s≠[91]/\s≠[40]/\∀ j,j < 9->fw s < j->s ∉ levels.getD j []:=by decide
 obtain ⟨I,G,h3,h4,h5⟩:=key s hm;refine ⟨I,G,h3,h4,fun j hj=>?_⟩
 rcases Nat.lt_or_ge j 9 with h0 | h0
 ·exact h5 j h0 hj
 ·rw [NC h0];simp
theorem E.ad6 {a:E} (h:a.ok=true):a.lv<=9:=by
 cases a with
 | bin s a b=>simp only [E.ok,aK] at h;exact Nat.le_of_lt (s9 h.1.1).1
 | _=>exact aI _
def nk (a:E):Prop:=∀ (e:Int) (k d:Nat) (ts rest:List Tok),k<=a.lv->a.ok=true->ts.map kf=a.tk->Stop rest k->Rt e k d (ts++rest) rest (fun t=>er t=a.tree) (a.fit d)
def abz (a:E):Prop:=∀ (e:Int) (k d:Nat) (ts rest:List Tok),k<=9->a.ok=true->ts.map kf=brk a.lv k a.tk->Stop rest k->Rt e k d (ts++rest) rest (fun t=>er t=a.tree) (My a.lv k d a.fit)
theorem map_cons {ts:List Tok} {k:K} {l:List K} (h:ts.map kf=k::l):∃ t r,ts=t::r/\kf t=k/\r.map kf=l:=List.map_eq_cons_iff.1 h
theorem eu {ts:List Tok} {l l':List K} (h:ts.map kf=l++l'):∃ a b,ts=a++b/\a.map kf=l/\b.map kf=l':=List.map_eq_append_iff.1 h
theorem ky {ts:List Tok} {k:K} (h:ts.map kf=[k]):∃ t,ts=[t]/\kf t=k:=by
 obtain ⟨t,r,rfl,I,G⟩:=map_cons h
 have:r=[]:=by simpa using G
 subst this;exact ⟨t,rfl,I⟩
theorem fv {t:Tok} {s:ae} (h:kf t=kS s):t.kind=3/\t.s=s:=by simp only [kf,kS,Prod.mk.injEq] at h;exact ⟨h.1,h.2.2⟩
theorem tN {t:Tok} {s:ae} (h:kf t=kN s):t.kind=2/\t.s=s:=by simp only [kf,kN,Prod.mk.injEq] at h;exact ⟨h.1,h.2.2⟩
theorem Vl {t:Tok} {n:Int} (h:kf t=kI n):t.kind=1/\t.n=n:=by simp only [kf,kI,Prod.mk.injEq] at h;exact ⟨h.1,h.2.1⟩
theorem nk.rx {a:E} (h:nk a) {e:Int} {d:Nat} {ts rest:List Tok} {s:ae} (ho:a.ok=true) (ht:ts.map kf=a.tk) (hs:sign rest 0=s) (pA:s=[]\/s=[41]\/s=[93]\/s=[44]\/s=[59]\/s=[61]) :
  Rx e d (ts++rest) rest (fun t=>er t=a.tree) (decide (d<=60)&&a.fit (d+1)):=(h e 0 (d+1) ts rest (aS _) ho ht (HV hs pA)).rx (Fk hs pA)
theorem nk.good {a:E} (h:nk a):abz a:=by
 intro e k d ts rest hk ho ht hs;unfold brk at ht;unfold My
 by_cases hl:a.lv < k
 ·rw [ah hl] at ht |-;obtain ⟨t,r,rfl,I,G⟩:=map_cons ht;obtain ⟨A,B,rfl,h3,h4⟩:=eu G;obtain ⟨u,rfl,h5⟩:=ky h4;obtain ⟨I,dD⟩:=fv I;obtain ⟨h5,WR⟩:=fv h5;have hx:=h.rx (e:=e) (d:=d+1) (rest:=u::rest) (s:=[41]) ho h3 (by simp only [sign,getElem?_cons_zero,dZ,h5,if_true,WR]) zf8;refine Ro.rt ?_ hk hs
  have he:t::(A++[u])++rest=t::(A++u::rest):=by simp
  rw [he]
  by_cases hd:d<=60
  ·have:(decide (d<=60)&&decide (d+1<=60)&&a.fit (d+2))=(decide (d+1<=60)&&a.fit (d+1+1)):=by simp [hd]
   rw [this];refine ⟨fun hb=>?_,fun hb=>?_⟩
   ·obtain ⟨t',k1,k2⟩:=hx.1 hb;exact ⟨t',k1,Ev.par hd I dD h5 WR k2⟩
   ·obtain ⟨pos,k1⟩:=hx.2 hb;exact ⟨pos,Ev.adV hd I dD k1⟩
  ·have:(decide (d<=60)&&decide (d+1<=60)&&a.fit (d+2))=false:=by simp [hd]
   exact zeY
 ·rw [ab hl] at ht |-;exact h e k d ts rest av ho ht hs
theorem wm {e:Int} {d:Nat} {ts rest:List Tok} {Q:T->Prop} {b:Bool} (h:d<=60->Ro e d ts rest Q b):Ro e d ts rest Q (decide (d<=60)&&b):=by
 by_cases hd:d<=60
 ·have:(decide (d<=60)&&b)=b:=by simp [hd]
  rw [this];exact h hd
 ·have:(decide (d<=60)&&b)=false:=by simp [hd]
  exact zeY
theorem pN {s:ae} (h:bT s=true):s.length<=12:=by
 simp only [Go.Sp.bT,aK,decide_eq_true_eq] at h;exact h.1.2
theorem UH (n:Int):nk (.num n):=by
 intro e k d ts rest hk ho ht hs;obtain ⟨t,rfl,I⟩:=ky ht;obtain ⟨I,G⟩:=Vl I;refine Ro.rt ?_ hk hs
 have:=wm (e:=e) (d:=d) (ts:=[t]++rest) (rest:=rest) (Q:=fun t=>er t=(E.num n).tree) (b:=true) fun hd=>⟨fun _=>⟨_,?_,Ev.num hd I⟩,fun h=>by cases h⟩
 ·simpa [E.fit] using this
 ·show er _=_;rw [er,E.tree,G];rfl
theorem QZ (s:ae):nk (.name s):=by
 intro e k d ts rest hk ho ht hs;obtain ⟨t,rfl,I⟩:=ky ht;obtain ⟨I,G⟩:=tN I;simp only [E.ok] at ho;refine Ro.rt ?_ hk hs
 have:=wm (e:=e) (d:=d) (ts:=[t]++rest) (rest:=rest) (Q:=fun t=>er t=(E.name s).tree) (b:=true) fun hd=>⟨fun _=>⟨_,?_,Ev.name hd I (by rw [G];exact pN ho) hs.a hs.b⟩,fun h=>by cases h⟩
 ·simpa [E.fit] using this
 ·show er _=_;rw [eW,E.tree,G];rfl
theorem Yc (s:ae) {a:E} (C:nk a):nk (.at_ s a):=by
 intro e k d ts rest hk ho ht hs;simp only [E.ok,aK] at ho;rw [E.tk] at ht;obtain ⟨t,r,rfl,I,G⟩:=map_cons ht;obtain ⟨u,r,rfl,h3,h4⟩:=map_cons G;obtain ⟨A,B,rfl,h5,h6⟩:=eu h4;obtain ⟨w,rfl,h7⟩:=ky h6;obtain ⟨I,dD⟩:=tN I;obtain ⟨h3,nt⟩:=fv h3;obtain ⟨h7,nR⟩:=fv h7
 have hl:t.s.length<=12:=by rw [dD];exact pN ho.1
 have hx:=C.rx (e:=e) (d:=d+1) (rest:=w::rest) (s:=[93]) ho.2 h5 (by simp only [sign,getElem?_cons_zero,dZ,h7,if_true,nR]) zf8;refine Ro.rt ?_ hk hs
 have he:t::u::(A++[w])++rest=t::u::(A++w::rest):=by simp
 rw [he,E.fit,Bool.and_assoc]
 refine wm fun hd=>⟨fun hb=>?_,fun hb=>?_⟩
 ·obtain ⟨t',k1,k2⟩:=hx.1 hb;exact ⟨_,by show er _=_;rw [eW,bf,k1,dD,E.tree];rfl,Ev.ix hd I hl h3 nt h7 nR k2⟩
 ·exact zeP
theorem Ye (s:ae) {a:E} (C:nk a):nk (.un s a):=by
 intro e k d ts rest hk ho ht hs;simp only [E.ok,aK,Bool.or_eq_true,beq_iff_eq] at ho;rw [E.tk] at ht;obtain ⟨t,r,rfl,I,G⟩:=map_cons ht;obtain ⟨I,dD⟩:=fv I;have C0:k<=9:=hk;have hg:=Ro.XB (C.good e 9 (d+1) r rest (aI _) ho.2 G (hs.mono C0));refine Ro.rt ?_ hk hs
 have w4:t.s=[45]\/t.s=[33]\/t.s=[126]:=by rw [dD];rcases ho.1 with (h | h) | h <;> simp [h]
 rw [E.fit]
 refine wm fun hd=>⟨fun hb=>?_,fun hb=>?_⟩
 ·obtain ⟨t',k1,k2⟩:=hg.1 hb;exact ⟨_,by show er _=_;rw [eW,bf,k1,dD,E.tree];rfl,Ev.un hd I w4 k2⟩
 ·obtain ⟨pos,k1⟩:=hg.2 hb;exact ⟨pos,Ev.unX hd I w4 k1⟩
theorem UE (s:ae) {a b:E} (Ca:nk a) (Cb:nk b):nk (.bin s a b):=by
 intro e k d ts rest hk ho ht hs;simp only [E.ok,aK] at ho;obtain ⟨l1,l2,l3,l4,l5⟩:=s9 ho.1.1;rw [E.tk] at ht;obtain ⟨A,B,rfl,I,G⟩:=eu ht;obtain ⟨t,r,rfl,h3,h4⟩:=map_cons G;obtain ⟨h3,nt⟩:=fv h3;have fm:k<=fw s:=hk;have lT:=hs.mono fm;refine Rt.down (m:=fw s) ?_ l1 fm hs
 have eO:sign (t::(r++rest)) 0=s:=by simp only [sign,getElem?_cons_zero,dZ,h3,if_true,nt]
 have ga:=Ca.good e (fw s) d A (t::(r++rest)) av ho.1.2 I ⟨by rw [eO];exact l3,by rw [eO];exact l4,fun j hj=>by rw [eO];exact l5 j hj⟩;have gb:=Cb.good e (fw s+1) d r rest av ho.2 h4 (lT.mono av)
 have he:A++t::r++rest=A++t::(r++rest):=by simp
 rw [he,E.fit]
 change Rt e (fw s) d _ rest _ (My a.lv (fw s) d a.fit&&My b.lv (fw s+1) d b.fit)
 have w4:t.s∈levels.getD (fw s) []:=by rw [nt];exact l2
 cases hfa:My a.lv (fw s) d a.fit with
 | false =>
  refine ⟨fun hb=>zhb,fun _=>ga.2 hfa⟩
 | true =>
  obtain ⟨ta,k1,k2,_⟩:=ga.1 hfa
  cases hfb:My b.lv (fw s+1) d b.fit with
  | false =>
   refine ⟨fun hb=>zhb,fun _=>?_⟩;obtain ⟨pos,k3⟩:=gb.2 hfb;exact ⟨pos,k2 l1 _ (Ev.goX h3 w4 k3)⟩
  | true =>
   refine ⟨fun _=>?_,fun hb=>zhb⟩;obtain ⟨tb,k3,k4,k5⟩:=gb.1 hfb
   have k6:Ev e (.level (fw s+1) d) (r++rest) (.ok (tb,rest)):=by
    rcases Nat.lt_or_ge (fw s+1) 9 with h9 | h9
    ·exact k4 h9 _ (Ev.stop (lT.c _ av))
    ·have:fw s+1=9:=by omega
     rw [this] at k5 |-;exact k5 rfl
   exact ⟨one 6 t.at_ t.s [ta,tb],by show er _=_;rw [eW,bf,bf,bf,k1,k3,nt,E.tree],fun _ x hx=>k2 l1 x (Ev.go h3 w4 k6 hx),fun h9=>by omega⟩
def WJ (k:K):Prop:=k.1=1\/k.1=2\/(k.1=3/\(k.2.2=[45]\/k.2.2=[33]\/k.2.2=[126]\/k.2.2=[40]))
theorem E.head:∀ (a:E),a.ok=true->∃ k r,a.tk=k::r/\WJ k
 | .num n,_=>⟨_,_,rfl,.inl rfl⟩
 | .name s,_=>⟨_,_,rfl,.inr (.inl rfl)⟩
 | .at_ s a,_=>⟨_,_,rfl,.inr (.inl rfl)⟩
 | .call s l,_=>⟨_,_,rfl,.inr (.inl rfl)⟩
 | .un s a,h=>⟨_,_,rfl,.inr (.inr ⟨rfl,by simp only [E.ok,aK,Bool.or_eq_true,beq_iff_eq] at h;rcases h.1 with (h | h) | h <;> simp [h]⟩)⟩
 | .bin s a b,h=>by
  simp only [E.ok,aK] at h;obtain ⟨k,r,I,G⟩:=E.head a h.1.2;rw [E.tk,brk];split
  ·exact ⟨_,_,rfl,.inr (.inr ⟨rfl,by simp⟩)⟩
  ·rw [I];exact ⟨k,_,rfl,G⟩
theorem Dv {t:Tok} {r:List Tok} (h:WJ (kf t)):sign (t::r) 0=[]\/sign (t::r) 0=[45]\/sign (t::r) 0=[33]\/sign (t::r) 0=[126]\/sign (t::r) 0=[40]:=by
 rcases h with h | h | ⟨h,h'⟩
 ·left;exact Gj (by simp only [kf] at h;omega)
 ·left;exact Gj (by simp only [kf] at h;omega)
 ·right
  have:sign (t::r) 0=t.s:=by simp only [kf] at h;simp only [sign,getElem?_cons_zero,dZ,h,if_true]
  rw [this];exact h'
def B3 (l:List E):Prop:=∀ (e:Int) (d:Nat) (acc:List T) (ts rest:List Tok) (u:Tok),E.dT l=true->acc≠[]->ts.map kf=E.tW l->u.kind=3->u.s=[41] ->
 (E.fits l d=true->∃ ys,bf ys=E.trees l/\Ea e d acc (ts++u::rest) (.ok (acc++ys,rest)))/\(E.fits l d=false->∃ pos,Ea e d acc (ts++u::rest) (.error (9,pos)))
theorem QW:B3 []:=by
 intro e d acc ts rest u _ ha ht hu iP
 have:ts=[]:=by simpa [E.tW] using ht
 subst this;exact ⟨fun _=>⟨[],rfl,by rw [dN];exact Ea.nil hu iP⟩,fun h=>by simp [E.fits] at h⟩
theorem HX {l:List E} {ts rest:List Tok} {u:Tok} (ht:ts.map kf=E.tW l) (hu:u.kind=3) (iP:u.s=[41]):∃ s,sign (ts++u::rest) 0=s/\(s=[]\/s=[41]\/s=[93]\/s=[44]\/s=[59]\/s=[61]):=by
 cases l with
 | nil =>
  have:ts=[]:=by simpa [E.tW] using ht
  subst this;exact ⟨[41],by simp only [nil_append,sign,getElem?_cons_zero,dZ,hu,if_true,iP],by simp⟩
 | cons a l =>
  rw [E.tW] at ht;obtain ⟨t,r,rfl,I,_⟩:=map_cons ht;exact ⟨[44],wo I,by simp⟩
theorem OS {a:E} {l:List E} (Ca:nk a) (Cl:B3 l):B3 (a::l):=by
 intro e d acc ts rest u ho ha ht hu iP;simp only [E.dT,aK] at ho;rw [E.tW] at ht;obtain ⟨t,r,rfl,I,G⟩:=map_cons ht;obtain ⟨A,B,rfl,h3,h4⟩:=eu G;obtain ⟨I,dD⟩:=fv I;obtain ⟨s,kE,mx⟩:=HX (rest:=rest) h4 hu iP;have hx:=Ca.rx (e:=e) (d:=d) (rest:=B++u::rest) (s:=s) ho.1 h3 kE mx
 have he:t::(A++B)++u::rest=t::(A++(B++u::rest)):=by simp
 rw [he,E.fits]
 cases hfa:decide (d<=60)&&a.fit (d+1) with
 | false =>
  refine ⟨fun hb=>zgW,fun _=>?_⟩;obtain ⟨pos,k1⟩:=hx.2 hfa;exact ⟨pos,Ea.ack ha I dD k1⟩
 | true =>
  obtain ⟨ta,k1,k2⟩:=hx.1 hfa;have hl:=Cl e d (acc++[ta]) B rest u ho.2 zf8 h4 hu iP;refine ⟨fun hb=>?_,fun hb=>?_⟩
  ·obtain ⟨ys,k3,k4⟩:=hl.1 zgu;exact ⟨ta::ys,by rw [bf,k1,k3,E.trees],Ea.more ha I dD k2 (by rw [eF] at k4;exact k4)⟩
  ·obtain ⟨pos,k3⟩:=hl.2 zgu;exact ⟨pos,Ea.more ha I dD k2 k3⟩
theorem QY (s:ae) {l:List E} (Cf:∀ a r,l=a::r->nk a/\B3 r):nk (.call s l):=by
 intro e k d ts rest hk ho ht hs;simp only [E.ok,aK] at ho;rw [E.tk] at ht;obtain ⟨t,r,rfl,I,G⟩:=map_cons ht;obtain ⟨u,r,rfl,h3,h4⟩:=map_cons G;obtain ⟨A,B,rfl,h5,h6⟩:=eu h4;obtain ⟨w,rfl,h7⟩:=ky h6;obtain ⟨I,dD⟩:=tN I;obtain ⟨h3,nt⟩:=fv h3;obtain ⟨h7,nR⟩:=fv h7
 have hl:t.s.length<=12:=by rw [dD];exact pN ho.1
 refine Ro.rt ?_ hk hs
 have he:t::u::(A++[w])++rest=t::u::(A++w::rest):=by simp
 rw [he,E.fit]
 refine wm fun hd=>?_
 have key:(E.fits l (d+1)=true->∃ ys,bf ys=E.trees l/\Ea e (d+1) [] (A++w::rest) (.ok (ys,rest)))/\(E.fits l (d+1)=false->∃ pos,Ea e (d+1) [] (A++w::rest) (.error (9,pos))):=by
  cases l with
  | nil =>
   have:A=[]:=by simpa [E.qn] using h5
   subst this;exact ⟨fun _=>⟨[],rfl,Ea.nil h7 nR⟩,fun h=>by simp [E.fits] at h⟩
  | cons a l =>
   obtain ⟨Ca,Cl⟩:=Cf a l rfl;have C4:=ho.2;simp only [E.dT,aK] at C4;rw [E.qn] at h5;obtain ⟨A,B,rfl,h3,h4⟩:=eu h5;obtain ⟨s,kE,mx⟩:=HX (rest:=rest) h4 h7 nR;have hx:=Ca.rx (e:=e) (d:=d+1) (rest:=B++w::rest) (s:=s) C4.1 h3 kE mx;rw [eF]
   have cj:sign (A++(B++w::rest)) 0≠[41]:=by
    obtain ⟨kk,rr,k1,k2⟩:=E.head a C4.1;rw [k1] at h3;obtain ⟨t0,r0,rfl,k3,_⟩:=map_cons h3
    rcases Dv (r:=r0++(B++w::rest)) (by rw [k3];exact k2) with h | h | h | h | h <;> (rw [cons_append,h];decide)
   rw [E.fits]
   cases hfa:decide (d+1<=60)&&a.fit (d+1+1) with
   | false =>
    refine ⟨fun hb=>zgW,fun _=>?_⟩;obtain ⟨pos,k1⟩:=hx.2 hfa;exact ⟨pos,Ea.aaa (a:=T.mk ⟨0,0,0,[],[]⟩ []) cj k1⟩
   | true =>
    obtain ⟨ta,k1,k2⟩:=hx.1 hfa;have nS:=Cl e (d+1) [ta] B rest w C4.2 zf8 h4 h7 nR;refine ⟨fun hb=>?_,fun hb=>?_⟩
    ·obtain ⟨ys,k3,k4⟩:=nS.1 zgu;exact ⟨ta::ys,by rw [bf,k1,k3,E.trees],Ea.first cj k2 k4⟩
    ·obtain ⟨pos,k3⟩:=nS.2 zgu;exact ⟨pos,Ea.first cj k2 k3⟩
 refine ⟨fun hb=>?_,fun hb=>?_⟩
 ·obtain ⟨ys,k1,k2⟩:=key.1 hb;exact ⟨_,by show er _=_;rw [eW,k1,dD,E.tree],Ev.call hd I hl h3 nt k2⟩
 ·obtain ⟨pos,k1⟩:=key.2 hb;exact ⟨pos,Ev.abH hd I hl h3 nt k1⟩
mutual
theorem core:∀ (a:E),nk a
 | .num n=>UH n
 | .name s=>QZ s
 | .at_ s a=>Yc s (core a)
 | .call s l=>QY s (abI l)
 | .un s a=>Ye s (core a)
 | .bin s a b=>UE s (core a) (core b)
theorem abI:∀ (l:List E),∀ a r,l=a::r->nk a/\B3 r
 | []=>fun a r h=>by cases h
 | a::r=>fun a' r' h=>by cases h;exact ⟨core a,QX r⟩
theorem QX:∀ (l:List E),B3 l
 | []=>QW
 | a::l=>OS (core a) (QX l)
end
inductive S where
 | set (s:ae) (a:E)
 | put (s:ae) (a b:E)
 | if1 (c:E) (b:List S)
 | if2 (c:E) (b b2:List S)
 | while_ (c:E) (b:List S)
 | ret (a:E)
 | do_ (a:E)
 | var (s:ae) (a:E)
mutual
def S.tk:S->List K
 | .set s a=>kN s::kS [61]::(a.tk++[kS [59]])
 | .put s a b=>kN s::kS [91]::(a.tk++kS [93]::kS [61]::(b.tk++[kS [59]]))
 | .if1 c b=>kS ir::kS [40]::(c.tk++kS [41]::kS [123]::(S.qn b++[kS [125]]))
 | .if2 c b b2=>kS ir::kS [40]::(c.tk++kS [41]::kS [123]::(S.qn b++kS [125]::kS km::kS [123]::(S.qn b2++[kS [125]])))
 | .while_ c b=>kS jd::kS [40]::(c.tk++kS [41]::kS [123]::(S.qn b++[kS [125]]))
 | .ret a=>kS iR::(a.tk++[kS [59]])
 | .do_ a=>a.tk++[kS [59]]
 | .var s a=>kS oE::kN s::kS [61]::(a.tk++[kS [59]])
def S.qn:List S->List K
 | []=>[]
 | a::l=>a.tk++S.qn l
end
mutual
def S.tree:S->T
 | .set s a=>.mk ⟨7,0,0,s,[]⟩ [a.tree]
 | .put s a b=>.mk ⟨8,0,0,s,[]⟩ [a.tree,b.tree]
 | .if1 c b=>.mk ⟨9,0,0,[],[]⟩ [c.tree,.mk ⟨14,0,0,[],[]⟩ (S.trees b)]
 | .if2 c b b2=>.mk ⟨9,0,0,[],[]⟩ [c.tree,.mk ⟨14,0,0,[],[]⟩ (S.trees b),.mk ⟨14,0,0,[],[]⟩ (S.trees b2)]
 | .while_ c b=>.mk ⟨10,0,0,[],[]⟩ [c.tree,.mk ⟨14,0,0,[],[]⟩ (S.trees b)]
 | .ret a=>.mk ⟨11,0,0,[],[]⟩ [a.tree]
 | .do_ a=>.mk ⟨12,0,0,[],[]⟩ [a.tree]
 | .var s a=>.mk ⟨13,0,0,s,[]⟩ [a.tree]
def S.trees:List S->List T
 | []=>[]
 | a::l=>a.tree::S.trees l
end
def tD (a:E) (d:Nat):Bool:=decide (d<=60)&&a.fit (d+1)
mutual
def S.fit:S->Nat->Bool
 | .set _ a,d=>decide (d<=60)&&tD a (d+1)
 | .put s a b,d=>decide (d<=60)&&(tD (.at_ s a) (d+1)&&tD b (d+1))
 | .if1 c b,d=>decide (d<=60)&&(tD c (d+1)&&(decide (d+1<=60)&&S.fits b (d+2)))
 | .if2 c b b2,d=>decide (d<=60)&&(tD c (d+1)&&((decide (d+1<=60)&&S.fits b (d+2))&&(decide (d+1<=60)&&S.fits b2 (d+2))))
 | .while_ c b,d=>decide (d<=60)&&(tD c (d+1)&&(decide (d+1<=60)&&S.fits b (d+2)))
 | .ret a,d=>decide (d<=60)&&tD a (d+1)
 | .do_ a,d=>decide (d<=60)&&tD a (d+1)
 | .var _ a,d=>decide (d<=60)&&tD a (d+1)
def S.fits:List S->Nat->Bool
 | [],_=>true
 | a::l,d=>a.fit d&&S.fits l d
end
mutual
def S.ok:S->Bool
 | .set s a=>bT s&&a.ok
 | .put s a b=>bT s&&(a.ok&&b.ok)
 | .if1 c b=>c.ok&&S.dT b
 | .if2 c b b2=>c.ok&&(S.dT b&&S.dT b2)
 | .while_ c b=>c.ok&&S.dT b
 | .ret a=>a.ok
 | .do_ a=>a.ok
 | .var s a=>bT s&&a.ok
def S.dT:List S->Bool
 | []=>true
 | a::l=>a.ok&&S.dT l
end
def Es (e:Int) (j:vE) (ts:List Tok) (x:Rd T):Prop:=∃ f0,∀ f,f0<=f->rs e f j ts=x
def Eb (e:Int) (d:Nat) (acc:List T) (ts:List Tok) (x:Rd (List T)):Prop:=∃ f0,∀ f,f0<=f->rs.body e f d acc ts=x
theorem Ev.ex {e:Int} {d:Nat} {ts:List Tok} {x:Rd T} (h:Ev e (.expr d) ts x):Go.Xp.expr e d ts=x:=by
 obtain ⟨f0,h0⟩:=h;rw [<-FO (e:=e) (d:=d) (ts:=ts) (f:=f0+(20 * ts.length+12)) av];exact h0 _ av
def Xx (e:Int) (d:Nat) (ts rest:List Tok) (Q:T->Prop) (b:Bool):Prop :=
 (b=true->∃ t,Q t/\expr e d ts=.ok (t,rest))/\(b=false->∃ pos,expr e d ts=.error (9,pos))
theorem Rx.xx {e:Int} {d:Nat} {ts rest:List Tok} {Q:T->Prop} {b:Bool} (h:Rx e d ts rest Q b):Xx e d ts rest Q b :=
 ⟨fun hb=>by obtain ⟨t,I,G⟩:=h.1 hb;exact ⟨t,I,G.ex⟩,fun hb=>by obtain ⟨pos,I⟩:=h.2 hb;exact ⟨pos,I.ex⟩⟩
theorem E.xx {a:E} {e:Int} {d:Nat} {ts rest:List Tok} {s:ae} (ho:a.ok=true) (ht:ts.map kf=a.tk) (hs:sign rest 0=s) (pA:s=[]\/s=[41]\/s=[93]\/s=[44]\/s=[59]\/s=[61]) :
  Xx e d (ts++rest) rest (fun t=>er t=a.tree) (tD a d):=((core a).rx ho ht hs pA).xx
def Sx (e:Int) (j:vE) (ts rest:List Tok) (Q:T->Prop) (b:Bool):Prop :=
 (b=true->∃ t,Q t/\Es e j ts (.ok (t,rest)))/\(b=false->∃ pos,Es e j ts (.error (9,pos)))
section
variable {e:Int} {d:Nat} {ts rest:List Tok} {Q:T->Prop} {b:Bool}
theorem vN {j:vE} {x:Rd T} (hs:∀ f,rs e (f+1) j ts=x):Es e j ts x :=
 ⟨1,fun f hf=>by obtain ⟨f,rfl⟩:∃ g,f=g+1:=⟨f - 1,by omega⟩;exact hs f⟩
theorem tj (h:d<=60->Sx e (.stmt d) ts rest Q b):Sx e (.stmt d) ts rest Q (decide (d<=60)&&b):=by
 by_cases hd:d<=60
 ·have:(decide (d<=60)&&b)=b:=by simp [hd]
  rw [this];exact h hd
 ·have:(decide (d<=60)&&b)=false:=by simp [hd]
  exact zdG
theorem uE {u:Tok} {s:ae} (hu:u.kind=3) (iP:u.s=s):aR e s (u::rest)=.ok rest:=by
 have hs:sign (u::rest) 0=s:=by simp only [sign,getElem?_cons_zero,dZ,hu,if_true,iP]
 unfold aR;rw [ah hs];rfl
theorem xk {u:Tok} {s:ae} (hu:u.kind=3) (iP:u.s=s):sign (u::rest) 0=s:=by simp only [sign,getElem?_cons_zero,dZ,hu,if_true,iP]
theorem yW {a:E} {u w:Tok} {A:List Tok} {sa sb:ae} (ho:a.ok=true) (ht:A.map kf=a.tk) (hu:u.kind=3) (iP:u.s=sa) (hw:w.kind=3) (Hp:w.s=sb) (hsb:sb=[]\/sb=[41]\/sb=[93]\/sb=[44]\/sb=[59]\/sb=[61]) :
  (tD a d=true->∃ t,er t=a.tree/\inner e d sa sb (u::(A++w::rest))=.ok (t,rest))/\(tD a d=false->∃ pos,inner e d sa sb (u::(A++w::rest))=.error (9,pos)):=by
 have hx:=E.xx (e:=e) (d:=d) (rest:=w::rest) ho ht (xk hw Hp) hsb;unfold inner;rw [uE hu iP];refine ⟨fun hb=>?_,fun hb=>?_⟩
 ·obtain ⟨t,I,G⟩:=hx.1 hb;exact ⟨t,I,by simp only;rw [G];simp only;rw [uE hw Hp]⟩
 ·obtain ⟨pos,I⟩:=hx.2 hb;exact ⟨pos,by simp only;rw [I]⟩
theorem N0 {a:E} {v u w:Tok} {A:List Tok} (ho:a.ok=true) (hv:v.kind=2) (hvl:v.s.length<=12) (ht:A.map kf=a.tk) (hu:u.kind=3) (iP:u.s=[61]) (hw:w.kind=3) (Hp:w.s=[59]) :
  (tD a d=true->∃ t,er t=a.tree/\nZ e d (v::u::(A++w::rest))=.ok ((v.s,t),rest))/\(tD a d=false->∃ pos,nZ e d (v::u::(A++w::rest))=.error (9,pos)):=by
 have hi:=yW (e:=e) (d:=d) (rest:=rest) ho ht hu iP hw Hp zf8;unfold nZ;rw [wg hv hvl];refine ⟨fun hb=>?_,fun hb=>?_⟩
 ·obtain ⟨t,I,G⟩:=hi.1 hb;exact ⟨t,I,by simp only;rw [G]⟩
 ·obtain ⟨pos,I⟩:=hi.2 hb;exact ⟨pos,by simp only;rw [I]⟩
theorem lk {t:Tok} {s:ae} (h:t.kind=2) (hs:s≠[]):sign (t::rest) 0≠s:=by rw [Gj av];exact fun h=>hs h.symm
def uX (s:S):Prop:=∀ (e:Int) (d:Nat) (ts rest:List Tok),s.ok=true->ts.map kf=s.tk->sign rest 0≠km->Sx e (.stmt d) (ts++rest) rest (fun t=>er t=s.tree) (s.fit d)
theorem UK (s:ae) (a:E):uX (.set s a):=by
 intro e d ts rest ho ht _;simp only [S.ok,aK] at ho;rw [S.tk] at ht;obtain ⟨t,r,rfl,I,G⟩:=map_cons ht;obtain ⟨u,r,rfl,h3,h4⟩:=map_cons G;obtain ⟨A,B,rfl,h5,h6⟩:=eu h4;obtain ⟨w,rfl,h7⟩:=ky h6;obtain ⟨I,dD⟩:=tN I;obtain ⟨h3,nt⟩:=fv h3;obtain ⟨h7,nR⟩:=fv h7
 have he:t::u::(A++[w])++rest=t::u::(A++w::rest):=by simp
 have hx:=N0 (e:=e) (d:=d+1) (rest:=rest) ho.2 I (by rw [dD];exact pN ho.1) h5 h3 nt h7 nR;rw [he,S.fit];have jB:t.kind=2/\sign (t::u::(A++w::rest)) 1=[61]:=⟨I,by simp only [sign,List.getElem?_cons_succ,getElem?_cons_zero,dZ,h3,if_true,nt]⟩
 refine tj fun hd=>⟨fun hb=>?_,fun hb=>?_⟩
 ·obtain ⟨t',k1,k2⟩:=hx.1 hb;refine ⟨one 7 t.at_ t.s [t'],by show er _=_;rw [eW,bf,k1,dD,S.tree];rfl,vN fun f=>?_⟩;refine zeo ?_;rw [ah jB,k2]
 ·obtain ⟨pos,k1⟩:=hx.2 hb;refine ⟨pos,vN fun f=>?_⟩;refine zeo ?_;rw [ah jB,k1]
theorem UL (s:ae) (a:E):uX (.var s a):=by
 intro e d ts rest ho ht _;simp only [S.ok,aK] at ho;rw [S.tk] at ht;obtain ⟨v,r,rfl,h0,ht⟩:=map_cons ht;obtain ⟨t,r,rfl,I,G⟩:=map_cons ht;obtain ⟨u,r,rfl,h3,h4⟩:=map_cons G;obtain ⟨A,B,rfl,h5,h6⟩:=eu h4;obtain ⟨w,rfl,h7⟩:=ky h6;obtain ⟨h0,vi⟩:=fv h0;obtain ⟨I,dD⟩:=tN I;obtain ⟨h3,nt⟩:=fv h3;obtain ⟨h7,nR⟩:=fv h7
 have he:v::t::u::(A++[w])++rest=v::t::u::(A++w::rest):=by simp
 have hx:=N0 (e:=e) (d:=d+1) (rest:=rest) ho.2 I (by rw [dD];exact pN ho.1) h5 h3 nt h7 nR;rw [he,S.fit]
 refine tj fun hd=>⟨fun hb=>?_,fun hb=>?_⟩
 ·obtain ⟨t',k1,k2⟩:=hx.1 hb;refine ⟨one 13 v.at_ t.s [t'],by show er _=_;rw [eW,bf,k1,dD,S.tree];rfl,vN fun f=>?_⟩;rw [rs,ab av];simp only;rw [ah (xk h0 vi),tail_cons,k2];rfl
 ·obtain ⟨pos,k1⟩:=hx.2 hb;refine ⟨pos,vN fun f=>?_⟩;rw [rs,ab av];simp only;rw [ah (xk h0 vi),tail_cons,k1]
theorem UJ (a:E):uX (.ret a):=by
 intro e d ts rest ho ht _;simp only [S.ok] at ho;rw [S.tk] at ht;obtain ⟨v,r,rfl,h0,h4⟩:=map_cons ht;obtain ⟨A,B,rfl,h5,h6⟩:=eu h4;obtain ⟨w,rfl,h7⟩:=ky h6;obtain ⟨h0,vi⟩:=fv h0;obtain ⟨h7,nR⟩:=fv h7
 have he:v::(A++[w])++rest=v::(A++w::rest):=by simp
 have hx:=E.xx (e:=e) (d:=d+1) (rest:=w::rest) ho h5 (xk h7 nR) zf8;rw [he,S.fit];have hs:=xk (rest:=A++w::rest) h0 vi
 refine tj fun hd=>⟨fun hb=>?_,fun hb=>?_⟩
 ·obtain ⟨t',k1,k2⟩:=hx.1 hb;refine ⟨one 11 v.at_ [] [t'],by show er _=_;rw [eW,bf,k1,S.tree];rfl,vN fun f=>?_⟩;rw [rs,ab av];simp only;rw [ab zgt,ab zgt,ah hs,tail_cons,k2];simp only;rw [uE h7 nR];rfl
 ·obtain ⟨pos,k1⟩:=hx.2 hb;refine ⟨pos,vN fun f=>?_⟩;rw [rs,ab av];simp only;rw [ab zgt,ab zgt,ah hs,tail_cons,k1]
def uH (l:List K):Prop:=∀ k∈l,k.1=3->k.2.2≠[61]
theorem uI {l l':List K}:uH (l++l')↔uH l/\uH l':=by
 unfold uH;constructor
 ·intro h;exact ⟨fun k hk=>h k (List.mem_append_left _ hk),fun k hk=>h k (List.mem_append_right _ hk)⟩
 ·rintro ⟨I,G⟩ k hk;rcases mo hk with hk | hk
  ·exact I k hk
  ·exact G k hk
theorem jM {a:K} {l:List K}:uH (a::l)↔(a.1=3->a.2.2≠[61])/\uH l:=by
 unfold uH;simp only [List.mem_cons,forall_eq_or_imp]
theorem sD:uH []:=fun k hk=>by cases hk
theorem BI {lv k:Nat} {x:List K} (h:uH x):uH (brk lv k x):=by
 unfold brk;split
 ·rw [jM,uI,jM];exact ⟨fun _=>by decide,h,fun _=>by decide,sD⟩
 ·exact h
mutual
theorem E.CA:∀ (a:E),a.ok=true->uH a.tk
 | .num n,_=>by rw [E.tk,jM];exact ⟨fun h=>zgg,sD⟩
 | .name s,_=>by rw [E.tk,jM];exact ⟨fun h=>zgg,sD⟩
 | .at_ s a,h=>by
  simp only [E.ok,aK] at h;rw [E.tk,jM,jM,uI,jM];exact ⟨fun h=>zgg,fun _=>ar,E.CA a h.2,fun _=>ar,sD⟩
 | .call s l,h=>by
  simp only [E.ok,aK] at h;rw [E.tk,jM,jM,uI,jM];exact ⟨fun h=>zgg,fun _=>ar,(E.S8 l h.2).1,fun _=>ar,sD⟩
 | .un s a,h=>by
  simp only [E.ok,aK,Bool.or_eq_true,beq_iff_eq] at h;rw [E.tk,jM];exact ⟨fun _=>(by rcases h.1 with (h | h) | h <;> (simp only [kS,h];decide)),BI (E.CA a h.2)⟩
 | .bin s a b,h=>by
  simp only [E.ok,aK] at h;rw [E.tk,uI,jM];exact ⟨BI (E.CA a h.1.2),fun _ h0=>(by simp only [kS] at h0;rw [h0] at h;exact absurd h.1.1 ar),BI (E.CA b h.2)⟩
theorem E.S8:∀ (l:List E),E.dT l=true->uH (E.qn l)/\uH (E.tW l)
 | [],_=>by rw [E.qn,E.tW];exact ⟨sD,sD⟩
 | a::l,h=>by
  simp only [E.dT,aK] at h;have I:=E.CA a h.1;have G:=E.S8 l h.2;rw [E.qn,E.tW,uI,jM,uI];exact ⟨⟨I,G.2⟩,fun _=>ar,I,G.2⟩
end
theorem P5 {ts:List Tok} {k:Nat} {s:ae} (h:∀ t,ts[k]?=some t->t.kind=3->t.s≠s) (hs:s≠[]):sign ts k≠s:=by
 unfold sign
 cases hk:ts[k]? with
 | none=>exact fun h=>hs h.symm
 | some t =>
  simp only [dZ];split
  ·rename_i h3;exact h t hk h3
  ·exact fun h=>hs h.symm
theorem LP {a:E} {A:List Tok} {w:Tok} (ho:a.ok=true) (h5:A.map kf=a.tk) (hw:w.s≠[61]):sign (A++w::rest) 1≠[61]:=by
 obtain ⟨k0,r0,hh,_⟩:=E.head a ho;refine P5 (fun t ht h3 w4=>?_) ar
 have hlen:1<=A.length:=by
  have:=congrArg List.length h5;rw [hh] at this;simp at this;omega
 rw [getElem?_append] at ht;split at ht
 ·have hm:kf t∈a.tk:=by rw [<-h5];exact List.mem_map_of_mem (bo ht)
  exact E.CA a ho _ hm h3 w4
 ·have:1 - A.length=0:=by omega
  rw [this] at ht;cases ht;exact hw w4
theorem Yd (a:E):uX (.do_ a):=by
 intro e d ts rest ho ht _;simp only [S.ok] at ho;rw [S.tk] at ht;obtain ⟨A,B,rfl,h5,h6⟩:=eu ht;obtain ⟨w,rfl,h7⟩:=ky h6;obtain ⟨h7,nR⟩:=fv h7
 have he:A++[w]++rest=A++w::rest:=by simp
 have hx:=E.xx (e:=e) (d:=d+1) (rest:=w::rest) ho h5 (xk h7 nR) zf8;have EC:=LP (rest:=rest) (w:=w) ho h5 (by rw [nR];decide);obtain ⟨k0,r0,hh,hf⟩:=E.head a ho;obtain ⟨t,r,rfl,h8,_⟩:=map_cons (by rw [<-hh];exact h5);rw [he,S.fit];rw [cons_append] at hx EC |-;have hfs:=Dv (r:=r++w::rest) (by rw [h8];exact hf)
 have jB:¬ (t.kind=2/\sign (t::(r++w::rest)) 1=[61]):=fun h=>EC h.2
 have cS:∀ s:ae,s=oE\/s=ir\/s=jd\/s=iR->sign (t::(r++w::rest)) 0≠s:=by
  intro s hs;rcases hfs with h | h | h | h | h <;> rcases hs with rfl | rfl | rfl | rfl <;> (rw [h];decide)
 refine tj fun hd=>⟨fun hb=>?_,fun hb=>?_⟩
 ·obtain ⟨t',k1,k2⟩:=hx.1 hb;refine ⟨one 12 t.at_ [] [t'],by show er _=_;rw [eW,bf,k1,S.tree];rfl,vN fun f=>?_⟩;refine zdb ?_;rw [ab jB,k2];simp only;rw [ab (fun h=>by have:=h.2.2;rw [xk h7 nR] at this;revert this;decide),uE h7 nR]
 ·obtain ⟨pos,k1⟩:=hx.2 hb;refine ⟨pos,vN fun f=>?_⟩;refine zdb ?_;rw [ab jB,k1]
theorem acV {s:ae} {a:E} {t u w:Tok} {A:List Tok} {sg:ae} (hn:bT s=true) (ho:a.ok=true) (I:t.kind=2) (dD:t.s=s) (h3:u.kind=3) (nt:u.s=[91]) (h5:A.map kf=a.tk) (h7:w.kind=3) (nR:w.s=[93]) (hs:sign rest 0=sg) (pA:sg=[]\/sg=[41]\/sg=[93]\/sg=[44]\/sg=[59]\/sg=[61]) :
  Xx e d (t::u::(A++w::rest)) rest (fun x=>er x=(E.at_ s a).tree/\x.n.kind=3/\x.n.at_=t.at_/\x.n.s=s/\∃ y,x.kids=[y]/\er y=a.tree) (tD (.at_ s a) d):=by
 have hl:t.s.length<=12:=by rw [dD];exact pN hn
 have hx:=(core a).rx (e:=e) (d:=d+1+1) (rest:=w::rest) (s:=[93]) ho h5 (xk h7 nR) zf8
 have hro:Ro e (d+1) (t::u::(A++w::rest)) rest (fun x=>er x=(E.at_ s a).tree/\x.n.kind=3/\x.n.at_=t.at_/\x.n.s=s/\∃ y,x.kids=[y]/\er y=a.tree) ((E.at_ s a).fit (d+1)):=by
  rw [E.fit,Bool.and_assoc]
  refine wm fun hd=>⟨fun hb=>?_,fun hb=>?_⟩
  ·obtain ⟨t',k1,k2⟩:=hx.1 hb;exact ⟨one 3 t.at_ t.s [t'],⟨by rw [eW,bf,k1,dD,E.tree];rfl,rfl,rfl,dD,_,rfl,k1⟩,Ev.ix hd I hl h3 nt h7 nR k2⟩
  ·exact zeP
 exact ((hro.rt (aS 9) (HV hs pA)).rx (Fk hs pA)).xx
theorem UI (s:ae) (a b:E):uX (.put s a b):=by
 intro e d ts rest ho ht _;simp only [S.ok,aK] at ho;rw [S.tk] at ht;obtain ⟨t,r,rfl,I,G⟩:=map_cons ht;obtain ⟨u,r,rfl,h3,h4⟩:=map_cons G;obtain ⟨A,B,rfl,h5,h6⟩:=eu h4;obtain ⟨w,r,rfl,h7,h8⟩:=map_cons h6;obtain ⟨q,r,rfl,h9,qa⟩:=map_cons h8;obtain ⟨B,C,rfl,rY,oT⟩:=eu qa;obtain ⟨z,rfl,gx⟩:=ky oT;obtain ⟨I,dD⟩:=tN I;obtain ⟨h3,nt⟩:=fv h3;obtain ⟨h7,nR⟩:=fv h7;obtain ⟨h9,He⟩:=fv h9;obtain ⟨gx,Dz⟩:=fv gx
 have he:t::u::(A++w::q::(B++[z]))++rest=t::u::(A++w::(q::(B++z::rest))):=by simp
 have hsq:=xk (rest:=B++z::rest) h9 He;have hx:=acV (e:=e) (d:=d+1) (rest:=q::(B++z::rest)) ho.1 ho.2.1 I dD h3 nt h5 h7 nR hsq zf8;have hv:=yW (e:=e) (d:=d+1) (rest:=rest) ho.2.2 rY h9 He gx Dz zf8;rw [he,S.fit]
 have jB:¬ (t.kind=2/\sign (t::u::(A++w::(q::(B++z::rest)))) 1=[61]):=fun h=>by
  have:=h.2;simp only [sign,List.getElem?_cons_succ,getElem?_cons_zero,dZ,h3,if_true,nt] at this
  revert this;decide
 have cS:∀ s:ae,s≠[]->sign (t::u::(A++w::(q::(B++z::rest)))) 0≠s:=fun s hs=>lk I hs
 refine tj fun hd=>?_
 cases hfa:tD (.at_ s a) (d+1) with
 | false =>
  refine ⟨fun hb=>zhb,fun _=>?_⟩;obtain ⟨pos,k1⟩:=hx.2 hfa;refine ⟨pos,vN fun f=>?_⟩;refine zbF ?_;rw [ab jB,k1]
 | true =>
  obtain ⟨x,⟨_,k1,k2,k3,y,k4,k5⟩,k6⟩:=hx.1 hfa;refine ⟨fun hb=>?_,fun hb=>?_⟩
  ·obtain ⟨v,k7,k8⟩:=hv.1 zgu;refine ⟨one 8 t.at_ s [y,v],by show er _=_;rw [eW,bf,bf,k5,k7,S.tree];rfl,vN fun f=>?_⟩;refine zbF ?_;rw [ab jB,k6];simp only;rw [ah ⟨k1,k2,hsq⟩,k8];simp only;rw [k3,k4];rfl
  ·obtain ⟨pos,k7⟩:=hv.2 zgu;refine ⟨pos,vN fun f=>?_⟩;refine zbF ?_;rw [ab jB,k6];simp only;rw [ah ⟨k1,k2,hsq⟩,k7]
end
end Go.Xp
