/- Part 9 of proofs that are told in their last texts. -/
import Derived.Test.YtcoplmnahnipiaaGreatDoorO8
import Derived.Test.YtcoplmnahnipiaaGreatDoorO5
import Derived.Test.YtcoplmnahnipiaaGreatDoorO6
import Derived.Test.YtcoplmnahnipiaaGreatDoorO7
open List (append_assoc append_nil cons_append getElem?_append_right getElem?_eq_getElem getElem?_set length_append length_cons length_set length_zipWith map_nil mem_of_getElem? mem_singleton nil_append range'_succ take_length)
set_option linter.unusedVariables false
set_option linter.unusedSimpArgs false
set_option maxRecDepth 100000
set_option maxHeartbeats 4000000
namespace Go.Xg
open Go.RowKit Go.Xw Go.Proofs
open Go.Im
def jw (gs:List (List Int)) (hs:List Value):List Ob:=List.zipWith (fun g h=>Ob.vech 3 1 (aZ g) h) gs hs
def oC (hs:List Value):List (List GV):=hs.map fun h=>[.v h]
def AL (gs:List (List Int)) (h:Value) (hs:List Value):List Ob:=.vech 40 1 (oC hs) h::jw gs hs
structure yV (gs:List (List Int)) (h:Value) (hs:List Value):Prop where
 head:∃ a c,h=.slice a gs.length c
 len:hs.length=gs.length
 kid:∀ (i:Nat) g x,gs[i]?=some g->hs[i]?=some x->∃ a c,x=.slice a g.length c
theorem M8 {gs:List (List Int)} {hs:List Value} (h:hs.length=gs.length):(jw gs hs).length=gs.length:=by simp [jw,h]
theorem Ia (hs:List Value):(oC hs).length=hs.length:=by simp [oC]
theorem xT {gs:List (List Int)} {hs:List Value} {i:Nat} {g:List Int} {h:Value} (hg:gs[i]?=some g) (hh:hs[i]?=some h):(jw gs hs)[i]?=some (.vech 3 1 (aZ g) h):=by
 unfold jw;rw [List.getElem?_zipWith,hg,hh]
theorem M7 {gs:List (List Int)} {hs:List Value}:∀ x∈jw gs hs,x.lS=true:=fun x hx=>by
 unfold jw at hx;obtain ⟨i,hi⟩:=List.mem_iff_getElem?.1 hx;rw [List.getElem?_zipWith] at hi;split at hi
 ·cases hi;rfl
 ·cases hi
theorem Sy {gs:List (List Int)} {h:Value} {hs:List Value}:∀ x∈AL gs h hs,x.lS=true:=fun x hx=>by
 rcases List.mem_cons.1 hx with rfl | hx
 ·rfl
 ·exact M7 x hx
theorem NH (A:List Ob) (x y:Ob):oset (A++[x]) A.length y=A++[y]:=by
 induction A with
 | nil=>rfl
 | cons a A ih=>simp only [cons_append,length_cons,oset,ih]
theorem Bd:∀ {gs:List (List Int)} {hs:List Value} (g:List Int) (h:Value),hs.length=gs.length->jw gs hs++[.vech 3 1 (aZ g) h]=jw (gs++[g]) (hs++[h])
 | [],[],g,h,_=>rfl
 | x::gs,y::hs,g,h,hl=>by
  have:=Bd (gs:=gs) (hs:=hs) g h (by simpa using hl);unfold jw at this |-;simp only [cons_append,List.zipWith_cons_cons,this]
 | [],y::hs,g,h,hl=>by simp at hl
 | x::gs,[],g,h,hl=>by simp at hl
theorem Dl:∀ (gs:List (List Int)) (hs:List Value) (i:Nat) (g:List Int) (h:Value),oset (jw gs hs) i (.vech 3 1 (aZ g) h)=jw (gs.set i g) (hs.set i h)
 | [],hs,i,g,h=>by simp [jw,oset]
 | x::gs,[],i,g,h=>by simp [jw,oset]
 | x::gs,y::hs,0,g,h=>rfl
 | x::gs,y::hs,i+1,g,h=>by
  have:=Dl gs hs i g h;unfold jw at this |-;simp only [List.zipWith_cons_cons,List.set_cons_succ,oset,this]
theorem Ib:∀ (hs:List Value) (i:Nat) (h:Value),di (oC hs) i 0 (.v h)=oC (hs.set i h)
 | [],i,h=>rfl
 | y::hs,0,h=>rfl
 | y::hs,i+1,h=>by
  have:=Ib hs i h;unfold oC at this |-;simp only [List.map_cons,List.set_cons_succ,di,this]
theorem yV.snoc {gs:List (List Int)} {h:Value} {hs:List Value} (H:yV gs h hs) (g:List Int) {a b:Option Addr} {c d:Nat}:yV (gs++[g]) (.slice a (gs.length+1) c) (hs++[.slice b g.length d]):=by
 refine ⟨⟨a,c,by simp⟩,by simp [H.len],fun i g' x h1 h2=>?_⟩;have hl:=H.len
 rcases Nat.lt_or_ge i gs.length with hi | hi
 ·rw [List.getElem?_append_left hi] at h1;rw [List.getElem?_append_left ah] at h2;exact H.kid i g' x h1 h2
 ·rw [getElem?_append_right hi] at h1;rw [getElem?_append_right ah] at h2;rw [hl] at h2
  cases hk:i - gs.length with
  | zero =>
   rw [hk] at h1 h2
   cases h1;cases h2
   exact ⟨_,_,rfl⟩
  | succ k=>rw [hk] at h1;simp at h1
theorem yV.set {gs:List (List Int)} {h:Value} {hs:List Value} (H:yV gs h hs) {i:Nat} (g:List Int) {b:Option Addr} {d n:Nat} (hn:n=g.length):yV (gs.set i g) h (hs.set i (.slice b n d)):=by
 subst hn;obtain ⟨a,c,e⟩:=H.head;refine ⟨⟨a,c,by rw [e];simp⟩,by simp [H.len],fun j g' x h1 h2=>?_⟩;rw [getElem?_set] at h1 h2
 by_cases fq:i=j
 ·rw [if_pos fq] at h1 h2;split at h1
  ·cases h1;split at h2
   ·cases h2;exact ⟨_,_,rfl⟩
   ·cases h2
  ·cases h1
 ·rw [if_neg fq] at h1 h2;exact H.kid j g' x h1 h2
theorem zM (F:Int->List Int):∀ k,(fS F k).length<=k
 | 0=>by simp [fS]
 | k+1=>by
  have:=zM F k;rw [fS];unfold se;split
  ·rw [length_set];omega
  ·rw [length_append];simp only [length_cons,List.length_nil];omega
theorem zL {F:Int->List Int}:∀ (k:Nat),∀ g∈fS F k,g.length<=k
 | 0,g,h=>by simp [fS] at h
 | k+1,g,h=>by
  have ih:=zL (F:=F) k;rw [fS] at h;unfold se at h;split at h
  ·rename_i i _
   rcases List.mem_or_eq_of_mem_set h with h | rfl
   ·have:=ih g h;omega
   ·cases hg:(fS F k)[i]? with
    | none=>simp
    | some l =>
     have:=ih l (mem_of_getElem? hg);simp only [Option.getD_some,length_append,length_cons,List.length_nil];omega
  ·rcases List.mem_append.1 h with h | h
   ·have:=ih g h;omega
   ·rw [mem_singleton] at h;subst h;simp
theorem Wl {K K1:Fz} {β:Bt} {v:Value} {f:Fn} {cap:List GV} (hk:cq K K1) (hp:∀ g∈cap,g.pc=true) (h:Rel K β v (.fn f [] cap)):Rel K1 (fun _=>.no) v (.fn f [] cap):=by
 cases h with
 | fn f xs ys first cap hl iM h h' =>
  exact .fn f xs ys [] cap hl iM (fun i v g _ hg=>by simp at hg) (fun i v g h1 h2=>((h' i v g h1 h2).mono hk (cZ.refl β)).pc (hp g (mem_of_getElem? h2)))
theorem Pb {B:Bs} {K:Fz} {β:Bt} {w:World} {gs:List (List Int)} {h:Value} {hs:List Value} {A C:List Ob} (H:yV gs h hs) (hI:Inv B K β (A++(AL gs h hs++C)) w) :
  ∃ K1,cq K K1/\ir K1 w/\fQ K1 (fun _=>.no) w/\Rel K1 (fun _=>.no) h (.sl 1 (dQ gs)):=by
 have hl:=H.len;have eX:=M8 hl;refine hI.deep (jf:=A.length) (base:=A.length+1) (T:=40) (E:=3) (rows:=oC hs) (hd:=fun i=>hs[i]?.getD (.slice none 0 0)) ?_ (by simp [oC,hl]) (fun i hi=>?_) (fun i g hg=>?_) ah
 ·rw [getElem?_append_right (Nat.le_refl _),Nat.sub_self];rfl
 ·have:hs[i]?=some hs[i]:=getElem?_eq_getElem ah;simp [oC,this]
 ·have hi:=(List.getElem?_eq_some_iff.1 hg).1;have:hs[i]?=some hs[i]:=getElem?_eq_getElem ah;rw [getElem?_append_right ah,show A.length+1+i - A.length=i+1 by omega];unfold AL;rw [cons_append,List.getElem?_cons_succ,List.getElem?_append_left ah];simp only [this,Option.getD_some];exact xT hg this
theorem GC.VE {f:FuncId} {args:List GV} {G:List (List Int)} (h:GC Tryz.prog f args [] fun g Δ=>∃ h hs,yV G h hs/\g=.v h/\Δ=AL G h hs):GF Tryz.prog f args [] (.sl 1 (dQ G)) []:=fun B K β w vs hm hI hF =>
 (h B K β w vs hm hI hF).mono fun v w' ⟨K',bV,g,aL,bj,hr,x,hs,H,hg,bB⟩=>by
  subst hg;subst bB;have hl:=H.len
  obtain ⟨K1,RR,k1,i1,j1⟩:=bj.QK (jf:=0) (base:=1) (T:=40) (E:=3) (rows:=oC hs) (gs:=G) (h:=x) (hd:=fun i=>hs[i]?.getD (.slice none 0 0)) rfl (by simp [oC,hl]) (fun i hi=>by
   have:hs[i]?=some hs[i]:=getElem?_eq_getElem ah
   simp [oC,this]) (fun i g hg=>by
   have hi:=(List.getElem?_eq_some_iff.1 hg).1;have:hs[i]?=some hs[i]:=getElem?_eq_getElem ah;rw [Nat.add_comm];unfold AL;simp only [List.getElem?_cons_succ,this,Option.getD_some]
   exact xT hg this) ah
  obtain ⟨K2,k2,r2,i2⟩:=i1.pZ j1;have hv:=Rel.eD hr;refine ⟨K2,_,.sl 1 (dQ G),[],i2.cut (n:=0) (by rw [hm];exact Nat.le_refl _) rfl,?_,rfl,rfl⟩;rw [hv];exact r2.pc rfl
end Go.Xg
namespace Go.Xg
open Go.RowKit Go.Xw
theorem Jg {A B:Prop} (h:B) (s:Hid B->A:=by intro hQ;(repeat (first | ((first | (apply GL.q;(· exact KY)) | refine GL.nil ?_ | refine be ?_ | refine GW.seq ?_ | refine GW.region ?_ | refine GW.skip ?_ | refine gE ?_ | refine GW.block ?_ | (apply GL.gt;(· exact rfl);(· first | exact rfl | assumption)) | (apply GL.gf;(· exact rfl);(· first | exact rfl | assumption)) | (apply GL.gu;(· exact rfl)) | (apply Ll;(· exact rfl);(· first | exact rfl | assumption)) | (apply Lk;(· exact rfl);(· first | exact rfl | assumption)));try refine GN wI ?_) | ((first | (apply GL.box;(· exact rfl)) | (apply GL.st;(· exact rfl);(· exact rfl);(· exact rfl);(· exact rfl);(· exact rfl);(· exact rfl)));refine rK dk eE ?_)));exact hQ.1):A:=s ⟨h⟩
end Go.Xg
namespace Go.Xg
open Go.RowKit Go.Xw Go.Proofs
open Go.Xp (Nd T Ar aR aB bR)
open Go.Sp (Src)
open Go.Im
attribute [local irreducible] GW GL GO YG GC GA aY ba
theorem Pa (p:Src) (hw:dB p<=1048576) (gU:fH p=true) :
  GC Tryz.prog 62 [.agg (ay p)] [] fun g Δ=>∃ h hs,yV (fS (bq p) p.fns.length) h hs/\g=.v h/\Δ=AL (fS (bq p) p.fns.length) h hs:=by
 obtain ⟨⟨a1,a2⟩,⟨b1,b2⟩,⟨c1,c2⟩,⟨d1,d2⟩⟩:=fg p
 have pK:(p.fns.map ax).length=p.fns.length:=by simp
 refine df Tryz.func62 Tryz.ntmps62 ?_;refine GW.seq ?_;refine GW.region ?_;refine GL.Jw rfl rfl ?_;refine b8 ?_;refine ae ?_;refine GW.wk (Wk.oq 40 1) ?_;simp only [nil_append];refine GW.range (p.fns.map ax).length (fun k fr Γ=>∃ h hs,fr=[.U,.box (ay p) 0,.U,.v h,.U,.U,.U,.sl 3 (p.fns.map ax),.v (ii ((p.fns.map ax).length:Int)),.v (ii (k:Nat)),.U,.U,.U,.U,.U,.U,.U,.U,.U,.U,.U,.U,.U,.U,.U,.U,.U,.U,.U,.U,.U,.U,.U,.U]/\yV (fS (bq p) k) h hs/\Γ=AL (fS (bq p) k) h hs) ?_ ah ?_ ?_ ?_
 ·exact ⟨_,_,Wk.aD ar,.slice none 0 0,[],rfl,⟨⟨none,0,rfl⟩,rfl,fun i g x h=>by simp [fS] at h⟩,rfl⟩
 ·rintro k _ _ ⟨h,hs,rfl,_,rfl⟩;exact dO
 ·rintro k _ _ hk ⟨h,hs,rfl,H,rfl⟩;rw [pK] at hk;have Q3:fS (bq p) (k+1)=se (bq p) (fS (bq p) k) (k:Int):=rfl;have Ie:=yz (rb p) k;have jR:=zM (bq p) k;have hgk:=zL (F:=bq p) k;rw [Q3];clear Q3;generalize fS (bq p) k=gs at *
  have hIx:GF Tryz.prog 66 [.sl 1 (dQ gs),.fn (.func 112) [] [.box (ay p) 0,.box [.v (ii (k:Nat))] 0]] [] (.v (ii (bM (fun g=>fk (bq p) (g.headD 0) (k:Int)) gs))) []:=by
   refine Ee _ _ _ gs ah fun g hg=>?_
   obtain ⟨a,r,rfl⟩:∃ a r,g=a::r:=List.exists_cons_of_ne_nil (Ie.ne g hg);obtain ⟨r1,r2,-⟩:=Ie.mem _ hg a (by simp);obtain ⟨j,rfl⟩:∃ j:Nat,a=(j:Int):=⟨a.toNat,by omega⟩;have:=Mu p hw gU (a:=j) (k:=k) ah hk r;rw [Jy ah] at this;exact this
  refine Jg ?_;refine GL.Ko rfl rfl rfl rfl rfl rfl rfl ?_;refine b8 ?_;refine ae ?_;refine GL.borrow hIx (fun B K β w l hI hF=>?_) ?_
  ·obtain ⟨K1,rN,h1,h2,h3⟩:=Pb (A:=[]) (C:=[]) H (by rw [append_nil];exact hI);refine ⟨K1,h1,h2,?_⟩;have hr:=hF.ev (.tmp 13);show bb K1 _ [ev l (.tmp 12),ev l (.tmp 13)] _;rw [hF.gy (x:=.tmp 12) (a:=h) rfl];exact .cons h3 (.cons (Wl rN (cap:=[.box (ay p) 0,.box [.v (ii (k:Int))] 0]) (by intro g hg;simp only [List.mem_cons,List.not_mem_nil,or_false] at hg;rcases hg with rfl | rfl <;> rfl) hr) .nil)
  refine b8 ?_;unfold se AH bM
  cases hz:gs.findIdx? (fun g=>fk (bq p) (g.headD 0) (k:Int)) with
  | none =>
   obtain ⟨a0,c0,e0⟩:=H.head;have hl:=H.len
   have vb:(oC hs).length=gs.length:=by rw [Ia,hl]
   simp only;refine ae ?_;refine mI ?_
   have rO:(Ob.vech 40 1 (oC hs) h::(jw gs hs++[.vec 3 1 0 (chunk 1 1 [.v (ii (k:Nat))])]))[(jw gs hs).length+1]?=some (.vec 3 1 0 (chunk 1 1 [.v (ii (k:Nat))])):=by simp
   refine GL.sQ (t:=19) rfl rfl rO rfl ?_;intro a1 c1;refine rK rfl (NH (Ob.vech 40 1 (oC hs) h::jw gs hs) _ _) ?_;refine b8 ?_;refine GL.jx 0 rfl rfl rfl rfl rfl rfl rfl rfl vb mc ?_;intro a2 c2;refine bT ?_;refine ae ?_;refine ⟨rfl,rfl,_,_,Wk.aD ar,_,hs++[.slice a1 1 c1],rfl,H.snoc [(k:Int)],?_⟩;unfold AL;rw [<-Bd _ _ hl];show _=_;simp only [oC,List.map_append,List.map_cons,map_nil];rfl
  | some i =>
   obtain ⟨a0,c0,e0⟩:=H.head;have hl:=H.len
   have vb:(oC hs).length=gs.length:=by rw [Ia,hl]
   obtain ⟨hi,-,-⟩:=List.findIdx?_eq_some_iff_getElem.1 hz;have JR:gs[i]?=some gs[i]:=getElem?_eq_getElem hi;have u7:hs[i]?=some (hs[i]'ah):=getElem?_eq_getElem _;obtain ⟨a1,c1,e1⟩:=H.kid i _ _ JR u7;have hgb:=hgk _ (mem_of_getElem? JR);generalize gs[i]=g at *;generalize hs[i]'ah=x at *;subst e1
   have tW:(oC hs)[i]?=some [.v (.slice a1 g.length c1)]:=by simp [oC,u7]
   have rP:i < (oC hs).length:=by omega
   have gZ:(Ob.vech 40 1 (oC hs) h::jw gs hs)[i+1]?=some (.vech 3 1 (aZ g) (.slice a1 g.length c1)):=by rw [List.getElem?_cons_succ];exact xT JR u7
   have Y4:(aZ g).length=g.length:=by simp [aZ]
   simp only;rw [JR,Option.getD_some];refine ae ?_;refine aJ (aC 0 7 (.a 7 (.a 8 (.q 9 (.a 10 .nil))))) ?_;refine au ?_;refine ey ?_;refine au ?_;refine OA rfl rfl (GL.pD (i+1) (news:=[[.v (ii (k:Nat))]]) rfl rfl gZ Y4 rfl rfl ⟨by show g.length+1<=_;omega,by show (g.length+1) * _<=_;omega⟩ ?_);intro a2 c2;refine dj ?_;refine au ?_;refine OA rfl rfl (GL.Yb rfl rfl rfl tW rfl rfl rfl rfl ?_);refine dj ?_;refine bg ?_;refine ⟨rfl,rfl,_,_,Wk.aD ar,h,hs.set i (.slice a2 (g.length+1) c2),rfl,H.set (g++[(k:Int)]) (by simp),?_⟩;unfold AL;rw [<-Dl,<-Ib,show aZ (g++[(k:Int)])=aZ g++[[.v (ii (k:Nat))]] by simp [aZ]];rfl
 ·rintro _ _ ⟨h,hs,rfl,H,rfl⟩;rw [pK] at H;rw [pK];refine be ?_;refine ae ?_;refine jo ?_;refine qR 0 rfl cy rfl Sy ⟨h,hs,H,rfl,rfl⟩
end Go.Xg
namespace Go.Im
open Go.Xp Go.Sp
theorem Mb {α:Type} (f g:α->Bool) (l:List α):(bM f l != bM g l)=!(l.findIdx? f==l.findIdx? g):=by
 unfold bM
 cases l.findIdx? f with
 | none =>
  cases l.findIdx? g with
  | none=>rfl
  | some j=>simp
 | some i =>
  cases l.findIdx? g with
  | none=>simp
  | some j =>
   by_cases e:i=j
   ·subst e;simp
   ·have h:(i:Int)≠(j:Int):=by omega
    have h1:((i:Int) != (j:Int))=true:=by simpa using h
    have h2:(some i==some j)=false:=by simpa using e
    show ((i:Int) != (j:Int))=!(some i==some j);rw [h1,h2];rfl
theorem OK {α:Type} {f:α->Bool} {l m:List α} (h:∀ x,x∈l↔x∈m):l.any f=m.any f:=by
 cases hm:m.any f with
 | true =>
  obtain ⟨x,hx,hf⟩:=List.any_eq_true.1 hm;exact List.any_eq_true.2 ⟨x,(h x).2 hx,hf⟩
 | false =>
  rw [List.any_eq_false] at hm |-
  exact fun x hx=>hm x ((h x).1 hx)
end Go.Im
namespace Go.Xg
open Go.RowKit Go.Xw Go.Proofs
open Go.Xp (Nd T Ar aR aB bR)
open Go.Sp (Src)
open Go.Im
attribute [local irreducible] GW GL GO YG GC GA aY ba
theorem O9 (p:Src) (hw:dB p<=1048576) (gU:fH p=true) :
  GF Tryz.prog 62 [.agg (ay p)] [] (.sl 1 (dQ (fS (bq p) p.fns.length))) []:=GC.VE (Pa p hw gU)
theorem Ed {jN:FuncId} [aI Tryz.prog jN] (pr:List Int->Bool) (c1:List GV) (ls:List (List Int)) (hn:ls.length<=1099511627776) (hc:∀ l∈ls,GF Tryz.prog jN [.sl 1 (aZ l),.box c1 0] [] (.v (.bool (pr l))) []) :
  GF Tryz.prog 66 [.sl 1 (dQ ls),.fn (.func jN) [] [.box c1 0]] [] (.v (ii (bM pr ls))) []:=by
 have dh:(dQ ls).length=ls.length:=by simp [dQ]
 refine aj Tryz.func66 Tryz.ntmps66 ?_;refine GW.range (dQ ls).length (fun k fr Γ=>fr=[.sl 1 (dQ ls),.fn (.func jN) [] [.box c1 0],.U,.U,.U,.U,.U,.v (ii ((dQ ls).length:Int)),.v (ii (k:Nat)),.U,.U,.U,.U,.U,.U,.U,.U,.U,.U]/\Γ=[]/\(ls.take k).all (fun y=>!pr y)=true) ?_ ah ?_ ?_ ?_
 ·exact iF
 ·exact fE
 ·rintro k _ _ ao ⟨rfl,rfl,aM⟩;rw [dh] at ao;obtain ⟨x,b6⟩:∃ x,ls[k]?=some x:=⟨ls[k],by simp [ao]⟩
  have hr:(dQ ls)[k]?=some [.sl 1 (aZ x)]:=by unfold dQ;rw [List.getElem?_map,b6];rfl
  have h:=hc x (mem_of_getElem? b6);have bh:=jL (f:=pr) b6
  have hit:=fun h0=>ju (f:=pr) b6 h0 aM
  generalize aZ x=X at *
  cases hb:pr x with
  | true =>
   rw [hb] at h;rw [hit hb];refine ae ?_;refine gM [] h ?_;exact aw
  | false =>
   rw [hb] at h bh;refine ae ?_;refine gM [] h ?_;refine ae ?_;exact ⟨rfl,rfl,_,_,Wk.aD ar,rfl,rfl,by rw [bh,aM];rfl⟩
 ·rintro _ _ ⟨rfl,rfl,aM⟩;rw [dh,take_length] at aM;rw [gB aM];exact aw
theorem PI (l:List Int) (x:Int) (hl:l.length<=1099511627776) :
  GF Tryz.prog 67 [.sl 1 (aZ l),.box [.v (ii x)] 0] [] (.v (.bool (l.contains x))) []:=by
 have hC:=ov l x hl;generalize l.contains x=b at *;refine aj Tryz.func67 Tryz.ntmps67 ?_;refine ab [] hC ?_;exact al
theorem Iy (G:List (List Int)) (x:Int) (hn:G.length<=1099511627776) (hl:∀ l∈G,l.length<=1099511627776) :
  GF Tryz.prog 65 [.v (ii x),.box [.sl 1 (dQ G)] 0] [] (.v (ii (bM (fun l=>l.contains x) G))) []:=by
 have hC:=Ed (jN:=67) (fun l=>l.contains x) [.v (ii x)] G hn fun l h=>PI l x (hl l h)
 generalize bM (fun l=>l.contains x) G=b at *;generalize dQ G=R at *;refine df Tryz.func65 Tryz.ntmps65 ?_;refine GW.seq ?_;refine GW.region ?_;refine GL.Jw rfl rfl ?_;refine b8 ?_;refine ae ?_;refine ab [] hC ?_;exact al
def lq (R S:List (List GV)) (h:Value):List Ob:=[.vech 3 1 S h,.box 78 [.fn (.func 65) [] [.box [.sl 1 R] 0]],.box 40 [.v h]]
theorem yY {B:Bs} {K:Fz} {β:Bt} {w:World} {fr:List GV} {l:List Value} {A C:List Ob} {x y:Operand} {S:List (List GV)} {h z:Value} (hI:Inv B K β (A++(.vech 3 1 S h::C)) w) (hF:FR K β fr l) (hx:aV fr x=.v h) (hy:aV fr y=.v z) :
  ∃ K1,ir K1 w/\fQ K1 (fun _=>.no) w/\bb K1 (fun _=>.no) ([x,y].map (ev l)) [.sl 1 S,.v z]:=by
 obtain ⟨K1,hk,h1,h2,h3⟩:=hI.view (i:=A.length) (E:=3) (k:=1) (rows:=S) (x:=h) (by rw [getElem?_append_right (Nat.le_refl _),Nat.sub_self];rfl);refine ⟨K1,h1,h2,?_⟩;show bb K1 _ [ev l x,ev l y] _;rw [hF.gy hx,hF.gy hy];exact .cons h3 (.cons (.v _) .nil)
theorem SH (G:List (List Int)) (told:List Int) (x k:Int) (h:Value) (hn:G.length<=1099511627776) (hl:∀ l∈G,l.length<=1099511627776) (ht:told.length<=1099511627776) :
  GF Tryz.prog 70 [.v (ii x),.loc 1 0,.box [.v (ii k)] 0,.loc 2 0] (lq (dQ G) (aZ told) h)
   (.v (.bool (!(G.findIdx? (fun l=>l.contains x)==G.findIdx? (fun l=>l.contains k))&&!told.contains x))) (lq (dQ G) (aZ told) h):=by
 have h1:=Iy G x hn hl;have h2:=Iy G k hn hl;have h3:=ov told x ht;have bJ:=Mb (fun l:List Int=>l.contains x) (fun l=>l.contains k) G;rw [<-bJ];generalize bM (fun l:List Int=>l.contains x) G=a at *;generalize bM (fun l:List Int=>l.contains k) G=b at *;generalize told.contains x=z at *;generalize dQ G=R at *;have e3:ints told=.sl 1 (aZ told):=rfl;rw [e3] at h3;generalize aZ told=S at *;unfold lq
 cases MD:(a != b) with
 | false =>
  rw [Bool.false_and];refine aj Tryz.func70 Tryz.ntmps70 ?_;refine aJ (.q 0 (.q 1 (.q 3 (.q 4 (.a 2 (.a 5 (aC 6 4 (.a 10 (aC 11 3 .nil))))))))) ?_;refine au ?_;refine iO [] h1 ?_;refine au ?_;refine iO [] h2 ?_;refine au ?_;exact aw
 | true =>
  rw [Bool.true_and];refine aj Tryz.func70 Tryz.ntmps70 ?_;refine aJ (.q 0 (.q 1 (.q 3 (.q 4 (.a 2 (.a 5 (aC 6 4 (.a 10 (aC 11 3 .nil))))))))) ?_;refine au ?_;refine iO [] h1 ?_;refine au ?_;refine iO [] h2 ?_;refine au ?_;refine Lp rfl rfl rfl (by first | exact rfl | assumption) (GL.borrow h3 (fun B K β w l hI hF=>yY (A:=[]) hI hF rfl rfl) ?_);refine dj ?_;refine au ?_;exact aw
theorem Ef (pr:Int->Bool) (R S:List (List GV)) (h:Value) (c1:List GV) (ls:List Int) (hn:ls.length<=1099511627776)
  (hc:∀ x∈ls,GF Tryz.prog 70 [.v (ii x),.loc 1 0,.box c1 0,.loc 2 0] (lq R S h) (.v (.bool (pr x))) (lq R S h)) :
  GF Tryz.prog 113 [ints ls,.fn (.func 70) [] [.loc 1 0,.box c1 0,.loc 2 0]] (lq R S h) (.v (ii (bM pr ls))) (lq R S h):=by
 have dh:(aZ ls).length=ls.length:=by simp [aZ]
 have e3:ints ls=.sl 1 (aZ ls):=rfl;rw [e3];unfold lq at *;refine aj Tryz.func113 Tryz.ntmps113 ?_;refine GW.range (aZ ls).length (fun k fr Γ=>fr=[.sl 1 (aZ ls),.fn (.func 70) [] [.loc 1 0,.box c1 0,.loc 2 0],.U,.U,.U,.U,.U,.v (ii ((aZ ls).length:Int)),.v (ii (k:Nat)),.U,.U,.U,.U,.U,.U,.U,.U,.U,.U]/\Γ=[.vech 3 1 S h,.box 78 [.fn (.func 65) [] [.box [.sl 1 R] 0]],.box 40 [.v h]]/\(ls.take k).all (fun y=>!pr y)=true) ?_ ah ?_ ?_ ?_
 ·exact iF
 ·exact fE
 ·rintro k _ _ ao ⟨rfl,rfl,aM⟩;rw [dh] at ao;obtain ⟨x,b6⟩:∃ x,ls[k]?=some x:=⟨ls[k],by simp [ao]⟩
  have hr:(aZ ls)[k]?=some [.v (ii x)]:=by unfold aZ;rw [List.getElem?_map,b6];rfl
  have h1:=hc x (mem_of_getElem? b6);have bh:=jL (f:=pr) b6
  have hit:=fun h0=>ju (f:=pr) b6 h0 aM
  cases hb:pr x with
  | true =>
   rw [hb] at h1;rw [hit hb];refine ae ?_;refine gM [0,1,2] h1 ?_;exact aw
  | false =>
   rw [hb] at h1 bh;refine ae ?_;refine gM [0,1,2] h1 ?_;refine ae ?_;exact ⟨rfl,rfl,_,_,Wk.aD ar,rfl,rfl,by rw [bh,aM];rfl⟩
 ·rintro _ _ ⟨rfl,rfl,aM⟩;rw [dh,take_length] at aM;rw [gB aM];exact aw
theorem Av (pr:Int->Bool) (R S:List (List GV)) (h:Value) (c1:List GV) (ls:List Int) (hn:ls.length<=1099511627776)
  (hc:∀ x∈ls,GF Tryz.prog 70 [.v (ii x),.loc 1 0,.box c1 0,.loc 2 0] (lq R S h) (.v (.bool (pr x))) (lq R S h)) :
  GF Tryz.prog 68 [ints ls,.fn (.func 70) [] [.loc 1 0,.box c1 0,.loc 2 0]] (lq R S h) (.v (.bool (ls.any pr))) (lq R S h):=by
 have hi:=Ef pr R S h c1 ls hn hc;rw [<-xq];generalize bM pr ls=z at *;unfold lq at *;refine aj Tryz.func68 Tryz.ntmps68 ?_;refine ab [0,1,2] hi ?_;exact al
end Go.Xg
set_option maxHeartbeats 2000000
namespace Go.Im
open Go.Xp
def w6 (n:Nat):ai:=109::cE n
theorem BW {n:Nat} (h:n < 10):cE n=[UInt8.ofNat (48+n)]:=by rw [cE,dif_pos h]
theorem HI {n:Nat} (h:¬ n < 10):cE n=cE (n / 10)++[UInt8.ofNat (48+n % 10)]:=by rw [cE,dif_neg h]
end Go.Im
namespace Go.Xg
open Go.RowKit Go.Xw Go.Proofs
open Go.Xp (Nd Ar cE oU)
open Go.Sp (Src)
open Go.Im (w6 BW HI)
attribute [local irreducible] GW GL GO YG GC GA aY ba
theorem rY (n:Nat) (hn:n<=1099511627776):GF Tryz.prog 111 [.v (ii (n:Int))] [] (.v (sv (w6 n))) []:=by
 unfold w6
 by_cases h0:n=0
 ·subst h0;rw [BW ah];refine aj Tryz.func111 Tryz.ntmps111 ?_;exact al
 have hd0:decide ((n:Int)<=0)=false:=by simpa using by omega
 have Uv:=oU n;refine aj Tryz.func111 Tryz.ntmps111 ?_;refine GW.loop (fun st:Nat × ai=>st.1) (fun st fr Γ=>fr=[.v (ii (st.1:Nat)),.U,.U,.v (sv st.2),.U,.U,.U,.U,.U,.U,.U,.U,.U,.U,.U,.U,.U,.U,.U,.U]/\Γ=[]/\st.1<=n/\st.2.length<=n+1/\(st.1=0->st.2=cE n)/\(st.1 > 0->cE st.1++st.2=cE n)) (n,[]) ?_ ?_
 ·exact ⟨_,_,Wk.aD ar,rfl,rfl,Nat.le_refl _,Nat.zero_le _,fun h=>absurd h h0,fun _=>by simp⟩
 rintro ⟨k,y⟩ _ _ ⟨rfl,rfl,hk,Fu,hz,hp⟩;simp only at hk Fu hz hp
 by_cases ao:k > 0
 ·have hd:decide ((0:Int) < (k:Int))=true:=by simpa using ao
  have hq:=hp ao;have hw:=x5 (48+k % 10) ah;rw [Int.natCast_add] at hw
  have bh:(k / 10=0->[UInt8.ofNat (48+k % 10)]++y=cE n)/\(k / 10 > 0->cE (k / 10)++([UInt8.ofNat (48+k % 10)]++y)=cE n):=by
   by_cases lj:k < 10
   ·rw [BW lj] at hq;refine ⟨fun _=>?_,fun h=>by omega⟩;rw [Nat.mod_eq_of_lt lj];exact hq
   ·rw [HI lj,append_assoc] at hq;exact ⟨fun h=>by omega,fun _=>hq⟩
  have rl:([UInt8.ofNat (48+k % 10)]++y).length<=n+1:=by
   by_cases lj:k / 10=0
   ·rw [bh.1 lj];exact Uv
   ·have:=congrArg List.length (bh.2 ah);rw [length_append] at this;omega
  refine ae ?_;refine bS ?_;refine ae ?_;exact ⟨(k / 10,[UInt8.ofNat (48+k % 10)]++y),⟨_,_,Wk.aD ar,rfl,rfl,by show k / 10<=n;omega,rl,bh.1,bh.2⟩,by show k / 10 < k;omega⟩
 ·have hd:decide ((0:Int) < (k:Int))=false:=by simpa using ao
  have hy:=hz ah;subst hy;refine bH ?_;exact aw
def marks (k n:Nat):List (List GV):=(List.range n).map fun i=>[GV.v (sv (w6 (k+i)))]
theorem ug (k n:Nat):(marks k n).length=n:=by simp [marks]
theorem Km (k n:Nat):marks k (n+1)=marks k n++[[.v (sv (w6 (k+n)))]]:=by simp [marks,List.range_succ]
theorem Nx (k:Nat) (rows:List (List GV)) {i:Nat} (h:i < rows.length):(marks k i++rows.drop i).set i [.v (sv (w6 (k+i)))]=marks k (i+1)++rows.drop (i+1):=by
 rw [List.drop_eq_getElem_cons h,List.set_append_right _ _ (by rw [ug];exact Nat.le_refl _),ug,Nat.sub_self,List.set_cons_zero,Km,append_assoc];rfl
theorem w5 (a:Option Addr) (c n k:Nat) (rows:List (List GV)) (hn:rows.length=n) (hb:k+n<=1099511627776) :
  GF Tryz.prog 57 [.v (.slice a n c),.v (ii (k:Nat))] [.vech 9 1 rows (.slice a n c)] (.v (ii ((k+n:Nat):Int))) [.vech 9 1 (marks k n) (.slice a n c)]:=by
 refine aj Tryz.func57 Tryz.ntmps57 ?_;refine GW.loop (fun i:Nat=>n - i) (fun i fr Γ=>∃ R,fr=[.v (.slice a n c),.v (ii ((k+i:Nat):Int)),.U,.U,.U,.v (ii (i:Nat)),.U,.U,.U,.U,.U,.U,.U,.U,.U,.U,.U,.U,.U,.U]/\Γ=[.vech 9 1 R (.slice a n c)]/\i<=n/\R=marks k i++rows.drop i) 0 ?_ ?_
 ·exact ⟨_,_,Wk.aD ar,_,rfl,rfl,Nat.zero_le _,rfl⟩
 rintro i _ _ ⟨R,rfl,rfl,hi,hR⟩
 have eG:R.length=n:=by rw [hR,length_append,ug,List.length_drop];omega
 by_cases ao:i < n
 ·have hd:decide ((i:Int) < (n:Int))=true:=by simpa using ao
  have hc:=rY (k+i) ah;have b9:=Nx k rows (i:=i) ah;rw [<-hR] at b9;clear hR;generalize w6 (k+i)=x at *;refine ae ?_;refine ab [] hc ?_;refine jK ?_;refine ae ?_;exact ⟨i+1,⟨_,_,Wk.aD ar,_,rfl,rfl,ao,b9⟩,by show n - (i+1) < n - i;omega⟩
 ·have hd:decide ((i:Int) < (n:Int))=false:=by simpa using ao
  have gV:i=n:=by omega
  subst gV;rw [List.drop_of_length_le ah,append_nil] at hR;subst hR;refine bH ?_;exact aw
end Go.Xg
namespace Go.Xg
open Go.RowKit Go.Xw Go.Proofs
open Go.Xp (Nd Ar cE oU)
open Go.Sp (Src)
open Go.Im (w6)
attribute [local irreducible] GW GL GO YG GC GA aY ba
theorem SR {p:Nat->Bool} {Γ:List Ob} (h:∀ x∈Γ,x.lS=true):Dv p Γ=true:=by
 induction Γ with
 | nil=>rfl
 | cons x r ih =>
  rw [Dv,ih fun y hy=>h y (List.mem_cons_of_mem _ hy),Bool.and_true];have:=h x List.mem_cons_self
  cases x <;> first | rfl | cases this
section
variable {P:Program} {fn:Func} {m:Nat} {R:GV->List Ob->Prop} {fr:List GV} {Γ:List Ob} {e:Exit}
theorem JJ {t:Tmp} {x:Value} (hr:fn.results=#[.tmp t]) (he:e=.normal\/e=.ret) (hg:cH fr t=.v x) (hm:m=Γ.length) (ha:∀ x∈Γ,x.lS=true) (h:R (.v x) Γ):sL P fn m R e fr Γ :=
 rG (n:=Γ.length) hr he hg ah (by rw [take_length];exact SR ha) rfl (by rw [take_length];exact h)
end
def iZ (f:Nat->Nat):Nat->Nat
 | 0=>0
 | i+1=>iZ f i+f i
theorem Gm (f:Nat->Nat) {i n:Nat} (h:i<=n):iZ f i<=iZ f n:=by
 induction n with
 | zero =>
  have:i=0:=by omega
  subst this;exact Nat.le_refl _
 | succ n ih =>
  by_cases e:i=n+1
  ·subst e;exact Nat.le_refl _
  ·have:=ih ah;rw [iZ];omega
theorem Zz {r:List GV} (h:r.length=2):∃ x y,r=[x,y]:=by
 match r,h with
 | [x,y],_=>exact ⟨x,y,rfl⟩
theorem px {rows:List (List GV)} {i o:Nat} {g:GV} {r:List GV} (hr:rows[i]?=some r):(di rows i o g)[i]?=some (bx r o g):=by rw [so hr,if_pos rfl]
theorem DD {k:Nat} {rows:List (List GV)} {i o:Nat} {g:GV} {r:List GV} (hr:rows[i]?=some r) (h:∀ r∈rows,r.length=k):∀ r∈di rows i o g,r.length=k:=fun q hq=>by
 obtain ⟨j,hj⟩:=List.getElem?_of_mem hq;rw [so hr] at hj;split at hj
 ·cases hj;rw [zO];exact h r (mem_of_getElem? hr)
 ·exact h q (mem_of_getElem? hj)
theorem Kk (a:Option Addr) (c n k:Nat) (rows:List (List GV)) (hn:rows.length=n) (hb:k+n<=1099511627776) :
  GC Tryz.prog 21 [.v (.slice a n c),.v (ii (k:Nat))] [.vech 3 1 rows (.slice a n c)] fun g Δ=>g=.v (ii ((k+n:Nat):Int))/\∃ R,R.length=n/\Δ=[.vech 3 1 R (.slice a n c)]:=by
 refine aj Tryz.func21 Tryz.ntmps21 ?_;refine GW.loop (fun i:Nat=>n - i) (fun i fr Γ=>∃ R,fr=[.v (.slice a n c),.v (ii ((k+i:Nat):Int)),.U,.U,.U,.v (ii (i:Nat)),.U,.U,.U,.U,.U,.U,.U,.U,.U,.U,.U,.U,.U]/\Γ=[.vech 3 1 R (.slice a n c)]/\i<=n/\R.length=n) 0 ?_ ?_
 ·exact ⟨_,_,Wk.aD ar,_,rfl,rfl,Nat.zero_le _,hn⟩
 rintro i _ _ ⟨R,rfl,rfl,hi,eG⟩
 by_cases ao:i < n
 ·have hd:decide ((i:Int) < (n:Int))=true:=by simpa using ao
  refine ae ?_;refine jK ?_;refine ae ?_;exact ⟨i+1,⟨_,_,Wk.aD ar,_,rfl,rfl,ao,by simp [eG]⟩,by show n - (i+1) < n - i;omega⟩
 ·have hd:decide ((i:Int) < (n:Int))=false:=by simpa using ao
  have gV:i=n:=by omega
  subst gV;refine bH ?_;refine ae ?_;refine bU ?_;exact ⟨rfl,R,eG,rfl⟩
theorem FH (a:Option Addr) (c n k:Nat) (rows:List (List GV)) (hn:rows.length=n) (h2:∀ r∈rows,r.length=2) (hb:k+2 * n<=1099511627776) :
  GC Tryz.prog 58 [.v (.slice a n c),.v (ii (k:Nat))] [.vech 88 2 rows (.slice a n c)] fun g Δ=>g=.v (ii ((k+2 * n:Nat):Int))/\∃ R,Δ=[.vech 88 2 R (.slice a n c)]:=by
 refine aj Tryz.func58 Tryz.ntmps58 ?_;refine GW.loop (fun i:Nat=>n - i) (fun i fr Γ=>∃ R,fr=[.v (.slice a n c),.v (ii ((k+2 * i:Nat):Int)),.U,.U,.U,.v (ii (i:Nat)),.U,.U,.U,.U,.U,.U,.U,.U,.U,.U,.U,.U,.U,.U,.U,.U,.U,.U,.U,.U,.U,.U]/\Γ=[.vech 88 2 R (.slice a n c)]/\i<=n/\R.length=n/\∀ r∈R,r.length=2) 0 ?_ ?_
 ·exact ⟨_,_,Wk.aD ar,_,rfl,rfl,Nat.zero_le _,hn,h2⟩
 rintro i _ _ ⟨R,rfl,rfl,hi,eG,QV⟩
 by_cases ao:i < n
 ·have hd:decide ((i:Int) < (n:Int))=true:=by simpa using ao
  have hc:=rY (k+2 * i) ah;have hr:R[i]?=some (R[i]'ah):=getElem?_eq_getElem _;obtain ⟨x0,y0,iV⟩:=Zz (QV _ (mem_of_getElem? hr));rw [iV] at hr;clear iV;generalize w6 (k+2 * i)=x at *;have gh:=px (o:=0) (g:=.v (sv x)) hr;simp only [bx] at gh
  have ff:(di R i (0+0) (.v (sv x))).length=n:=by rw [fB];exact eG
  have Uk:=DD (o:=0) (g:=.v (sv x)) hr QV;refine ae ?_;refine ab [] hc ?_;refine oO ?_;refine ae ?_;refine oO ?_;refine ae ?_;exact ⟨i+1,⟨_,_,Wk.aD ar,_,rfl,rfl,ao,by rw [fB];exact ff,DD gh Uk⟩,by show n - (i+1) < n - i;omega⟩
 ·have hd:decide ((i:Int) < (n:Int))=false:=by simpa using ao
  have gV:i=n:=by omega
  subst gV;refine bH ?_;refine ae ?_;refine bU ?_;exact ⟨rfl,R,rfl⟩
theorem FJ {R:List (List GV)} {hs:Nat->Value} {n i o:Nat} {g x y:GV} (hi:i < n) (ho:o=0\/o=2) (hr:R[i]?=some [x,.v (hs i),y]) (h:∀ j,j < n->∃ x y,R[j]?=some [x,.v (hs j),y]):∀ j,j < n->∃ x y,(di R i o g)[j]?=some [x,.v (hs j),y]:=fun j hj=>by
 rw [so hr]
 by_cases e:j=i
 ·subst e;rw [if_pos rfl]
  rcases ho with rfl | rfl
  ·exact ⟨_,_,rfl⟩
  ·exact ⟨_,_,rfl⟩
 ·rw [if_neg e];exact h j hj
theorem Nv (a:Option Addr) (c n k:Nat) (hs:Nat->Value) (pl:Nat->Nat) (rows:List (List GV)) (L:List Ob) (hn:rows.length=n) (hh:∀ i,i < n->Hd (pl i) (hs i)) (bz:∀ i,i < n->∃ x y,rows[i]?=some [x,.v (hs i),y])
  (hL:L.length=n) (gZ:∀ i,i < n->∃ ks,ks.length=pl i/\L[i]?=some (.vech 9 1 ks (hs i))) (hb:k+2 * n+iZ pl n<=1099511627776) :
  GC Tryz.prog 59 [.v (.slice a n c),.v (ii (k:Nat))] (.vech 60 3 rows (.slice a n c)::L) fun g Δ=>g=.v (ii ((k+2 * n+iZ pl n:Nat):Int))/\∃ R L',Δ=.vech 60 3 R (.slice a n c)::L'/\L'.length=n/\∀ x∈L',x.lS=true:=by
 have Mx:∀ (M:List Ob),M.length=n->(∀ i,i < n->∃ ks,ks.length=pl i/\M[i]?=some (.vech 9 1 ks (hs i)))->∀ x∈M,x.lS=true:=fun M hM hk x hx=>by
  obtain ⟨i,hi⟩:=List.getElem?_of_mem hx;obtain ⟨ks,_,h2⟩:=hk i (by have:=(List.getElem?_eq_some_iff.1 hi).1;omega);rw [hi] at h2;cases h2;rfl
 have Q8:(Ob.vech 60 3 rows (.slice a n c)::L).length=n+1:=by simp [hL]
 refine df Tryz.func59 Tryz.ntmps59 ?_;rw [Q8];refine ae ?_;refine GW.loop (fun z:Nat × Nat=>n - z.1) (fun z fr Γ=>∃ R L,fr=[.v (.slice a n c),.v (ii ((z.2:Nat):Int)),.U,.U,.U,.v (ii (z.1:Nat)),.U,.U,.U,.U,.U,.U,.U,.U,.U,.U,.U,.U,.U,.U,.U,.U,.U,.U,.U,.U,.U,.U,.U,.U,.U,.U,.U,.U,.U]/\Γ=.vech 60 3 R (.slice a n c)::L/\z.1<=n/\z.2=k+2 * z.1+iZ pl z.1/\R.length=n/\L.length=n/\(∀ i,i < n->∃ x y,R[i]?=some [x,.v (hs i),y])/\∀ i,i < n->∃ ks,ks.length=pl i/\L[i]?=some (.vech 9 1 ks (hs i))) (0,k) ?_ ?_
 ·exact ⟨_,_,Wk.aD ar,_,_,rfl,rfl,Nat.zero_le _,rfl,hn,hL,bz,gZ⟩
 rintro ⟨i,kk⟩ _ _ ⟨R,L,rfl,rfl,hi,lB,eG,re,MA,AQ⟩;simp only at hi lB
 by_cases ao:i < n
 ·have hd:decide ((i:Int) < (n:Int))=true:=by simpa using ao
  have UZ:iZ pl (i+1)=iZ pl i+pl i:=rfl;have Zo:=Gm pl (i:=i+1) (n:=n) ao;have hc:=rY kk ah;obtain ⟨x0,y0,hr⟩:=MA i ao;obtain ⟨ks,C9,My⟩:=AQ i ao;obtain ⟨a1,c1,HM⟩:=hh i ao;have eM:=w5 a1 c1 (pl i) (kk+1) ks C9 ah;generalize w6 kk=x at *;have Uj:=FJ (g:=.v (sv x)) ao (.inl rfl) hr MA;have gh:=px (o:=0) (g:=.v (sv x)) hr;simp only [bx] at gh;rw [HM] at gh My
  have ff:(di R i (0+0) (.v (sv x))).length=n:=by rw [fB];exact eG
  refine ae ?_;refine gQ [] hc ?_;simp only [append_nil];refine ae ?_;refine oO ?_;refine ae ?_;refine GL.Ay [i+1] eM (me) (by simp [ig,Nat.blt_eq];omega) ⟨My,trivial⟩ ?_;rintro _ _ ⟨rfl,rfl⟩;refine ⟨by simp,?_⟩;simp only [dS,oset,List.map_cons,map_nil,Ob.dz,append_nil];refine b8 ?_;refine ae ?_;refine oO ?_;refine ae ?_
  have dd:(di R i 0 (.v (sv x)))[i]?=some [.v (sv x),.v (hs i),y0]:=by rw [HM];exact gh
  refine ⟨(i+1,kk+1+pl i+1),⟨_,_,Wk.aD ar,_,_,rfl,rfl,ao,by simp only;omega,by rw [fB];exact ff,by rw [bc,length_set];exact re,FJ ao (.inr rfl) dd Uj,fun j hj=>?_⟩,by show n - (i+1) < n - i;omega⟩;rw [bc,getElem?_set]
  by_cases e:i=j
  ·subst e;rw [if_pos rfl,if_pos ah];exact ⟨marks (kk+1) (pl i),ug _ _,by rw [HM]⟩
  ·rw [if_neg e];exact AQ j hj
 ·have hd:decide ((i:Int) < (n:Int))=false:=by simpa using ao
  have gV:i=n:=by omega
  subst gV;rw [<-lB];refine bH ?_;refine ae ?_;refine jo ?_;refine JJ rfl cy rfl (by simp [re]) ?_ ⟨rfl,R,L,rfl,re,Mx L re AQ⟩;intro x hx
  rcases List.mem_cons.1 hx with rfl | hx
  ·rfl
  ·exact Mx L re AQ x hx
theorem uf {R:List (List GV)} {hs:Nat->Value} {n i o:Nat} {g x0 x1 x2 x3:GV} (hi:i < n) (ho:o < 4) (hr:R[i]?=some [x0,x1,x2,x3,.v (hs i)]) (h:∀ j,j < n->∃ x0 x1 x2 x3,R[j]?=some [x0,x1,x2,x3,.v (hs j)]):∀ j,j < n->∃ x0 x1 x2 x3,(di R i o g)[j]?=some [x0,x1,x2,x3,.v (hs j)]:=fun j hj=>by
 rw [so hr]
 by_cases e:j=i
 ·subst e;rw [if_pos rfl]
  obtain rfl | rfl | rfl | rfl:o=0\/o=1\/o=2\/o=3:=by omega
  ·exact ⟨_,_,_,_,rfl⟩
  ·exact ⟨_,_,_,_,rfl⟩
  ·exact ⟨_,_,_,_,rfl⟩
  ·exact ⟨_,_,_,_,rfl⟩
 ·rw [if_neg e];exact h j hj
theorem Hi (a:Option Addr) (c n k:Nat) (hs:Nat->Value) (pl:Nat->Nat) (rows:List (List GV)) (L:List Ob) (hn:rows.length=n) (hh:∀ i,i < n->Hd (pl i) (hs i)) (bz:∀ i,i < n->∃ x0 x1 x2 x3,rows[i]?=some [x0,x1,x2,x3,.v (hs i)])
  (hL:L.length=n) (gZ:∀ i,i < n->∃ ks,ks.length=pl i/\L[i]?=some (.vech 3 1 ks (hs i))) (hb:k+4 * n+iZ pl n<=1099511627776) :
  GC Tryz.prog 60 [.v (.slice a n c),.v (ii (k:Nat))] (.vech 91 5 rows (.slice a n c)::L) fun g Δ=>g=.v (ii ((k+4 * n+iZ pl n:Nat):Int))/\∃ R L',Δ=.vech 91 5 R (.slice a n c)::L'/\L'.length=n/\∀ x∈L',x.lS=true:=by
 have Mx:∀ (M:List Ob),M.length=n->(∀ i,i < n->∃ ks,ks.length=pl i/\M[i]?=some (.vech 3 1 ks (hs i)))->∀ x∈M,x.lS=true:=fun M hM hk x hx=>by
  obtain ⟨i,hi⟩:=List.getElem?_of_mem hx;obtain ⟨ks,_,h2⟩:=hk i (by have:=(List.getElem?_eq_some_iff.1 hi).1;omega);rw [hi] at h2;cases h2;rfl
 have Q8:(Ob.vech 91 5 rows (.slice a n c)::L).length=n+1:=by simp [hL]
 refine df Tryz.func60 Tryz.ntmps60 ?_;rw [Q8];refine ae ?_;refine GW.loop (fun z:Nat × Nat=>n - z.1) (fun z fr Γ=>∃ R L,fr=[.v (.slice a n c),.v (ii ((z.2:Nat):Int)),.U,.U,.U,.v (ii (z.1:Nat)),.U,.U,.U,.U,.U,.U,.U,.U,.U,.U,.U,.U,.U,.U,.U,.U,.U,.U,.U,.U,.U,.U,.U,.U,.U,.U,.U,.U,.U,.U,.U,.U,.U,.U,.U,.U,.U,.U,.U,.U,.U,.U,.U]/\Γ=.vech 91 5 R (.slice a n c)::L/\z.1<=n/\z.2=k+4 * z.1+iZ pl z.1/\R.length=n/\L.length=n/\(∀ i,i < n->∃ x0 x1 x2 x3,R[i]?=some [x0,x1,x2,x3,.v (hs i)])/\∀ i,i < n->∃ ks,ks.length=pl i/\L[i]?=some (.vech 3 1 ks (hs i))) (0,k) ?_ ?_
 ·exact ⟨_,_,Wk.aD ar,_,_,rfl,rfl,Nat.zero_le _,rfl,hn,hL,bz,gZ⟩
 rintro ⟨i,kk⟩ _ _ ⟨R,L,rfl,rfl,hi,lB,eG,re,MA,AQ⟩;simp only at hi lB
 by_cases ao:i < n
 ·have hd:decide ((i:Int) < (n:Int))=true:=by simpa using ao
  have UZ:iZ pl (i+1)=iZ pl i+pl i:=rfl;have Zo:=Gm pl (i:=i+1) (n:=n) ao;have hc:=rY (kk+1+1+1) ah;obtain ⟨x0,x1,x2,x3,hr⟩:=MA i ao;obtain ⟨ks,C9,My⟩:=AQ i ao;obtain ⟨a1,c1,HM⟩:=hh i ao;have eM:=Kk a1 c1 (pl i) (kk+1+1+1+1) ks C9 ah;generalize w6 (kk+1+1+1)=x at *;have Uj:=uf (g:=.v (ii (kk:Nat))) ao (Nat.zero_lt_succ 3) hr MA;have gh:=px (o:=0) (g:=.v (ii (kk:Nat))) hr;simp only [bx] at gh;have QV:=uf (g:=.v (ii ((kk+1:Nat):Int))) ao (show 1 < 4 by omega) gh Uj;have dd:=px (o:=1) (g:=.v (ii ((kk+1:Nat):Int))) gh;simp only [bx] at dd;have Uk:=uf (g:=.v (ii ((kk+1+1:Nat):Int))) ao (show 2 < 4 by omega) dd QV;have MT:=px (o:=2) (g:=.v (ii ((kk+1+1:Nat):Int))) dd;simp only [bx] at MT;have hR4:=uf (g:=.v (sv x)) ao (show 3 < 4 by omega) MT Uk;have XP:=px (o:=3) (g:=.v (sv x)) MT;simp only [bx] at XP;rw [HM] at gh dd MT XP My
  have ff:(di R i (0+0) (.v (ii (kk:Nat)))).length=n:=by rw [fB];exact eG
  have jC:(di (di R i (0+0) (.v (ii (kk:Nat)))) i (0+1) (.v (ii ((kk+1:Nat):Int)))).length=n:=by rw [fB];exact ff
  have Uz:(di (di (di R i (0+0) (.v (ii (kk:Nat)))) i (0+1) (.v (ii ((kk+1:Nat):Int)))) i (0+2) (.v (ii ((kk+1+1:Nat):Int)))).length=n:=by rw [fB];exact jC
  have hl4:(di (di (di (di R i (0+0) (.v (ii (kk:Nat)))) i (0+1) (.v (ii ((kk+1:Nat):Int)))) i (0+2) (.v (ii ((kk+1+1:Nat):Int)))) i (0+3) (.v (sv x))).length=n:=by rw [fB];exact Uz
  refine ae ?_;refine oO ?_;refine ae ?_;refine oO ?_;refine ae ?_;refine oO ?_;refine ae ?_;refine gQ [] hc ?_;simp only [append_nil];refine ae ?_;refine oO ?_;refine ae ?_;refine GL.Ay [i+1] eM (me) (by simp [ig,Nat.blt_eq];omega) ⟨My,trivial⟩ ?_;rintro _ _ ⟨rfl,R',YS,rfl⟩;refine ⟨by simp,?_⟩;simp only [dS,oset,List.map_cons,map_nil,Ob.dz,append_nil];refine b8 ?_;refine ae ?_;refine ⟨(i+1,kk+1+1+1+1+pl i),⟨_,_,Wk.aD ar,_,_,rfl,rfl,ao,by simp only;omega,hl4,by rw [bc,length_set];exact re,hR4,fun j hj=>?_⟩,by show n - (i+1) < n - i;omega⟩;rw [bc,getElem?_set]
  by_cases e:i=j
  ·subst e;rw [if_pos rfl,if_pos ah];exact ⟨R',YS,by rw [HM]⟩
  ·rw [if_neg e];exact AQ j hj
 ·have hd:decide ((i:Int) < (n:Int))=false:=by simpa using ao
  have gV:i=n:=by omega
  subst gV;rw [<-lB];refine bH ?_;refine ae ?_;refine jo ?_;refine JJ rfl cy rfl (by simp [re]) ?_ ⟨rfl,R,L,rfl,re,Mx L re AQ⟩;intro x hx
  rcases List.mem_cons.1 hx with rfl | hx
  ·rfl
  ·exact Mx L re AQ x hx
end Go.Xg
namespace Go.Xg
open Go.RowKit Go.Xw Go.Proofs
open Go.Xp (Nd Ar cE oU)
open Go.Sp (Src)
open Go.Im (w6)
theorem IY {x:Ob} (h:x.lS=true) (f:Nat->Nat):x.dz f=x:=by cases x <;> first | rfl | cases h
theorem IH {X:List Ob} (h:∀ x∈X,x.lS=true) (f:Nat->Nat):X.map (Ob.dz f)=X :=
 (List.map_congr_left fun x hx=>IY (h x hx) f).trans (List.map_id _)
theorem Hm (s n N:Nat) (h:s+n<=N):ig (List.range' s n) N=true:=by
 induction n generalizing s with
 | zero=>rfl
 | succ n ih =>
  rw [range'_succ,ig,ih (s+1) ah]
  have h1:Nat.blt s N=true:=by rw [Nat.blt_eq];omega
  have h2:(List.range' (s+1) n).contains s=false:=by
   cases hc:(List.range' (s+1) n).contains s with
   | false=>rfl
   | true =>
    have:=List.mem_range'_1.1 (List.contains_iff_mem.1 hc);omega
  rw [h1,h2];rfl
theorem Bu (f:Nat->Nat):∀ (X A C:List Ob),(∀ x∈X,x.lS=true)->seen f (A++(X++C)) (List.range' A.length X.length) X
 | [],A,C,_=>trivial
 | x::X,A,C,h=>by
  rw [length_cons,range'_succ,seen];refine ⟨by rw [getElem?_append_right (Nat.le_refl _),Nat.sub_self,IY (h x List.mem_cons_self)];rfl,?_⟩
  have:=Bu f X (A++[x]) C fun y hy=>h y (List.mem_cons_of_mem _ hy)
  rw [length_append,List.length_singleton,append_assoc] at this;exact this
theorem x8:∀ (X A C Δ:List Ob),Δ.length=X.length->dS (A++(X++C)) (List.range' A.length X.length) Δ=A++(Δ++C)
 | [],A,C,Δ,h=>by
  have:Δ=[]:=List.eq_nil_of_length_eq_zero h;subst this;show dS (A++C) [] []=_;rw [dS,append_nil];rfl
 | x::X,A,C,[],h=>by cases h
 | x::X,A,C,y::Δ,h=>by
  rw [length_cons,range'_succ,dS]
  have e:oset (A++(x::X++C)) A.length y=(A++[y])++(X++C):=by
   rw [bc,List.set_append_right _ _ (Nat.le_refl _),Nat.sub_self];simp
  have:=x8 X (A++[y]) C Δ (by simpa using h);rw [length_append,List.length_singleton] at this;rw [e,this];simp
section
variable {P:Program} {m:Nat} {Q:dP} {fr:List GV} {Γ:List Ob} {ops:Array Oper} {rest:List Oper} {d:Option Tmp} {op:Op} {ty:TypeId} {pos:String} {af:Array Edge}
theorem GL.sc {f:FuncId} [hf:aI P f] (A X C:List Ob) {args:List Operand} {mG:Array TypeId} {gs:List GV} {R:GV->List Ob->Prop} (hc:GC P f gs X R) (bB:Γ=A++(X++C)) (hX:∀ x∈X,x.lS=true) (hgs:∀ r,lG r gs=gs) (ha:kR (args.map (aV fr)) gs)
  (h:∀ g Δ,R g Δ->Δ.length=X.length/\(∀ x∈Δ,x.lS=true)/\(∀ r,dz r g=g)/\GL P m ops Q rest (bu fr d g) (A++(Δ++C))) :
  GL P m ops Q (⟨d,.call ⟨.value (.func f),args.toArray,mG⟩,ty,pos,af,none⟩::rest) fr Γ:=by
 subst bB
 refine GL.Ay (List.range' A.length X.length) hc (by rw [hgs];exact ha) (Hm _ _ _ (by simp only [length_append];omega)) (Bu _ X A C hX) fun g Δ hr=>?_
 obtain ⟨h1,h2,h3,h4⟩:=h g Δ hr;refine ⟨by rw [List.length_range',h1];exact Nat.le_refl _,?_⟩;rw [IH h2,x8 _ _ _ _ h1,h3];exact h4
end
attribute [local irreducible] GW GL GO YG GC GA aY ba
theorem Wm (p:Src):iZ (fun i=>match p.fns[i]? with | some f=>f.params.length | none=>0) p.fns.length=Go.Im.bf (fun f:Go.Sp.Fn=>f.params.length) p.fns:=by
 have key:∀ n,n<=p.fns.length->iZ (fun i=>match p.fns[i]? with | some f=>f.params.length | none=>0) n=Go.Im.bf (fun f:Go.Sp.Fn=>f.params.length) (p.fns.take n):=by
  intro n
  induction n with
  | zero=>intro _;rfl
  | succ n ih =>
   intro h
   have hx:p.fns[n]?=some p.fns[n]:=by simp [show n < p.fns.length by omega]
   rw [iZ,ih ah,Go.Im.kQ hx,hx]
 rw [key _ (Nat.le_refl _),take_length]
theorem WW (p:Src):iZ (fun i=>match p.nodes[i]? with | some f=>f.kids.length | none=>0) p.nodes.length=Go.Im.bf (fun f:Nd=>f.kids.length) p.nodes:=by
 have key:∀ n,n<=p.nodes.length->iZ (fun i=>match p.nodes[i]? with | some f=>f.kids.length | none=>0) n=Go.Im.bf (fun f:Nd=>f.kids.length) (p.nodes.take n):=by
  intro n
  induction n with
  | zero=>intro _;rfl
  | succ n ih =>
   intro h
   have hx:p.nodes[n]?=some p.nodes[n]:=by simp [show n < p.nodes.length by omega]
   rw [iZ,ih ah,Go.Im.kQ hx,hx]
 rw [key _ (Nat.le_refl _),take_length]
theorem rD {α γ:Type} {f:α->Value->γ} {l:List α} {hs:List Value} {i:Nat} {x:α} {h:Value} (h1:l[i]?=some x) (h2:hs[i]?=some h):(List.zipWith f l hs)[i]?=some (f x h):=by rw [List.getElem?_zipWith,h1,h2]
theorem FI (p:Src) (hg ha hf hn:Value) (fs ns:List Value) (H:BI p hg ha hf hn fs ns) (k:Nat) (hw:Go.Im.dB p<=1048576) (hk:k<=1048576) :
  GC Tryz.prog 20 [.agg [.v hg,.v ha,.v hf,.v hn],.v (ii (k:Nat))] (jn p hg ha hf hn fs ns) fun g Δ=>∃ k':Nat,g=.v (ii (k':Nat))/\Δ.length=(jn p hg ha hf hn fs ns).length/\∀ x∈Δ,x.lS=true:=by
 obtain ⟨⟨b1,_⟩,⟨b2,_⟩,⟨b3,_⟩,⟨b4,_⟩⟩:=Go.Im.fg p
 have gz:Go.Im.bf (fun f:Go.Sp.Fn=>f.params.length) p.fns<=1 * Go.Im.bf (fun f:Go.Sp.Fn=>f.name.length+Go.Im.wS f.params+1) p.fns:=Go.Im.nH fun f _=>by have:=Go.Im.Gt f.params;omega
 have jD:Go.Im.bf (fun f:Nd=>f.kids.length) p.nodes<=1 * Go.Im.bf (fun n:Nd=>n.s.length+n.kids.length+1) p.nodes:=Go.Im.nH fun f _=>by omega
 have rR:Go.Im.bf (fun f:Go.Sp.Fn=>f.name.length+Go.Im.wS f.params+1) p.fns<=1048576:=by unfold Go.Im.dB at hw;omega
 have wX:Go.Im.bf (fun n:Nd=>n.s.length+n.kids.length+1) p.nodes<=1048576:=by unfold Go.Im.dB at hw;omega
 have hsf:=Wm p;have hsn:=WW p;obtain ⟨⟨a0,c0,rfl⟩,⟨a1,c1,rfl⟩,⟨a2,c2,rfl⟩,⟨a3,c3,rfl⟩,jB,rl,hfh,hnh⟩:=H
 have U1:∀ i,i < p.fns.length->∃ f h,p.fns[i]?=some f/\fs[i]?=some h:=fun i hi=>⟨p.fns[i],fs[i]'ah,by simp [hi],by simp [show i < fs.length by omega]⟩
 have U2:∀ i,i < p.nodes.length->∃ f h,p.nodes[i]?=some f/\ns[i]?=some h:=fun i hi=>⟨p.nodes[i],ns[i]'ah,by simp [hi],by simp [show i < ns.length by omega]⟩
 have EU:(List.zipWith qV p.fns fs).length=p.fns.length:=by rw [length_zipWith];omega
 have re:(List.zipWith mQ p.nodes ns).length=p.nodes.length:=by rw [length_zipWith];omega
 have e0:=w5 a0 c0 p.globals.length k (cl p.globals) (by simp [cl]) ah
 have e1:=fun k hk=>FH a1 c1 p.arrays.length k (p.arrays.map aH) (by simp) (fun r hr=>by obtain ⟨x,_,rfl⟩:=List.mem_map.1 hr;rfl) hk
 have e2:=fun k hk=>Nv a2 c2 p.fns.length k (fun i=>match fs[i]? with | some h=>h | none=>undef) (fun i=>match p.fns[i]? with | some f=>f.params.length | none=>0) (List.zipWith p8 p.fns fs) (List.zipWith qV p.fns fs) (by rw [length_zipWith];omega)
  (fun i hi=>by obtain ⟨f,h,h1,h2⟩:=U1 i hi;rw [h1,h2];exact hfh i f h h1 h2) (fun i hi=>by obtain ⟨f,h,h1,h2⟩:=U1 i hi;rw [h2];exact ⟨_,_,rD h1 h2⟩) EU
  (fun i hi=>by obtain ⟨f,h,h1,h2⟩:=U1 i hi;rw [h1,h2];exact ⟨cl f.params,by simp [cl],rD h1 h2⟩) hk
 have e3:=fun k hk=>Hi a3 c3 p.nodes.length k (fun i=>match ns[i]? with | some h=>h | none=>undef) (fun i=>match p.nodes[i]? with | some f=>f.kids.length | none=>0) (List.zipWith lJ p.nodes ns) (List.zipWith mQ p.nodes ns) (by rw [length_zipWith];omega)
  (fun i hi=>by obtain ⟨f,h,h1,h2⟩:=U2 i hi;rw [h1,h2];exact hnh i f h h1 h2) (fun i hi=>by obtain ⟨f,h,h1,h2⟩:=U2 i hi;rw [h2];exact ⟨_,_,_,_,rD h1 h2⟩) re
  (fun i hi=>by obtain ⟨f,h,h1,h2⟩:=U2 i hi;rw [h1,h2];exact ⟨aZ f.kids,by simp [aZ],rD h1 h2⟩) hk
 rw [hsf] at e2;rw [hsn] at e3;have e1:=e1 (k+p.globals.length) ah;have e2:=e2 (k+p.globals.length+2 * p.arrays.length) ah;have e3:=e3 (k+p.globals.length+2 * p.arrays.length+2 * p.fns.length+Go.Im.bf (fun f:Go.Sp.Fn=>f.params.length) p.fns) ah;have aM:=Aj p (.slice a0 p.globals.length c0) (.slice a1 p.arrays.length c1) (.slice a2 p.fns.length c2) (.slice a3 p.nodes.length c3) fs ns;generalize hm:(jn p (.slice a0 p.globals.length c0) (.slice a1 p.arrays.length c1) (.slice a2 p.fns.length c2) (.slice a3 p.nodes.length c3) fs ns).length=M;unfold jn at hm aM |-;generalize hF:List.zipWith qV p.fns fs=LF at *;generalize hN:List.zipWith mQ p.nodes ns=LN at *;refine df Tryz.func20 Tryz.ntmps20 ?_;rw [hm];refine GW.seq ?_;refine GW.region ?_;refine GL.Jw rfl rfl ?_;refine b8 ?_;refine ae ?_;refine GL.sc [] [_] _ e0 rfl (by intro x hx;rw [List.mem_singleton.1 hx];rfl) (fun _=>rfl) (me) ?_;rintro _ _ ⟨rfl,rfl⟩;refine ⟨rfl,by intro x hx;rw [List.mem_singleton.1 hx];rfl,fun _=>rfl,?_⟩;refine b8 ?_;refine ae ?_;refine GL.sc [_] [_] _ e1 rfl (by intro x hx;rw [List.mem_singleton.1 hx];rfl) (fun _=>rfl) (me) ?_;rintro _ _ ⟨rfl,R1,rfl⟩;refine ⟨rfl,by intro x hx;rw [List.mem_singleton.1 hx];rfl,fun _=>rfl,?_⟩;refine b8 ?_;refine ae ?_;refine GL.sc [_,_] (_::LF) (_::LN) e2 rfl (by intro x hx;exact aM x (by simp only [List.mem_cons,List.mem_append] at hx |-;rcases hx with h | h;(· exact .inr (.inr (.inl h)));exact .inr (.inr (.inr (.inl h))))) (fun _=>rfl) (me) ?_;rintro _ _ ⟨rfl,R2,L2,rfl,Xy,Ug⟩;refine ⟨by simp [Xy,EU],by intro x hx;rcases List.mem_cons.1 hx with rfl | hx;(· rfl);exact Ug x hx,fun _=>rfl,?_⟩;refine b8 ?_;refine ae ?_;refine GL.sc (_::_::_::L2) (_::LN) [] e3 (by rw [append_nil];rfl) (by intro x hx;exact aM x (by simp only [List.mem_cons,List.mem_append] at hx |-;exact .inr (.inr (.inr (.inr hx))))) (fun _=>rfl) (me) ?_;rintro _ _ ⟨rfl,R3,L3,rfl,Xz,Uh⟩;refine ⟨by simp [Xz,re],by intro x hx;rcases List.mem_cons.1 hx with rfl | hx;(· rfl);exact Uh x hx,fun _=>rfl,?_⟩;rw [append_nil]
 refine b8 ?_;refine ae ?_;refine jo ?_
 have hH:∀ x∈(Ob.vech 9 1 (marks k p.globals.length) (.slice a0 p.globals.length c0)::Ob.vech 88 2 R1 (.slice a1 p.arrays.length c1)::Ob.vech 60 3 R2 (.slice a2 p.fns.length c2)::(L2++Ob.vech 91 5 R3 (.slice a3 p.nodes.length c3)::L3)),x.lS=true:=by
  intro x hx
  rcases List.mem_cons.1 hx with rfl | hx
  ·rfl
  rcases List.mem_cons.1 hx with rfl | hx
  ·rfl
  rcases List.mem_cons.1 hx with rfl | hx
  ·rfl
  rcases List.mem_append.1 hx with hx | hx
  ·exact Ug x hx
  rcases List.mem_cons.1 hx with rfl | hx
  ·rfl
  ·exact Uh x hx
 have hM:M=(Ob.vech 9 1 (marks k p.globals.length) (.slice a0 p.globals.length c0)::Ob.vech 88 2 R1 (.slice a1 p.arrays.length c1)::Ob.vech 60 3 R2 (.slice a2 p.fns.length c2)::(L2++Ob.vech 91 5 R3 (.slice a3 p.nodes.length c3)::L3)).length:=by
  rw [<-hm];simp [Xy,Xz,EU,re]
 exact JJ rfl cy rfl hM hH ⟨_,rfl,hM.symm,hH⟩
end Go.Xg
set_option maxHeartbeats 4000000
namespace Go.Xg
open Go.RowKit Go.Xw Go.Proofs
open Go.Xp (Nd T Ar aR aB bR)
open Go.Sp (Src)
open Go.Im
attribute [local irreducible] GW GL GO YG GC GA aY ba
theorem Tq (p:Src) (hw:dB p<=1048576) (gU:fH p=true) (told:List Int) (ht:told.length<=1048576) {k:Nat} (hk:k < p.fns.length) (h:Value) :
  GF Tryz.prog 68 [ints (fC (bq p (k:Int))),.fn (.func 70) [] [.loc 1 0,.box [.v (ii (k:Nat))] 0,.loc 2 0]]
   (lq (dQ (fS (bq p) p.fns.length)) (aZ told) h) (.v (.bool (tG (bq p) p.fns.length told (k:Int)))) (lq (dQ (fS (bq p) p.fns.length)) (aZ told) h):=by
 obtain ⟨⟨a1,a2⟩,⟨b1,b2⟩,⟨c1,c2⟩,⟨d1,d2⟩⟩:=fg p;have jR:=zM (bq p) p.fns.length;have eX:=zL (F:=bq p) p.fns.length;have jB:=zJ p (k:Int);have hq:=Av (fun x=>!((fS (bq p) p.fns.length).findIdx? (fun l=>l.contains x)==(fS (bq p) p.fns.length).findIdx? (fun l=>l.contains (k:Int)))&&!told.contains x) (dQ (fS (bq p) p.fns.length)) (aZ told) h [.v (ii (k:Nat))] (fC (bq p (k:Int))) (by rw [ma];omega)
  fun x _=>SH _ told x (k:Int) h ah (fun l hl=>by have:=eX l hl;omega) ah
 rw [OK (fun x=>tA)] at hq;exact hq
theorem LH (p:Src) (hw:dB p<=1048576) (gU:fH p=true) {k:Nat} (hk:k < p.fns.length) :
  ∃ ks,GF Tryz.prog 46 [.agg (ay p),.v (ii (k:Nat))] [] (ints ks) []/\GF Tryz.prog 69 [.agg (ay p),ints ks] [] (ints (fC (bq p (k:Int)))) []:=by
 obtain ⟨i',l,f,t,he,h⟩:=uZ (sf gU hk)
 have:i'=k:=by omega
 subst this;refine ⟨_,BR p hw h,?_⟩;rw [tS (sf gU hk) h];exact CR p hw h.good (bQ p t) (qX p t)
theorem GY (p:Src) (hw:dB p<=1048576) (hn:xe p) :
  GC Tryz.prog 31 [.agg (ay p)] [] fun g Δ=>∃ a c,g=.v (.slice a (rX p).length c)/\Δ=[.vech 3 1 (aZ (rX p)) (.slice a (rX p).length c)]:=by
 obtain ⟨⟨a1,a2⟩,⟨b1,b2⟩,⟨c1,c2⟩,⟨d1,d2⟩⟩:=fg p
 have pK:(p.fns.map ax).length=p.fns.length:=by simp
 have hG:=Sv p hw hn;unfold rX
 cases gU:fH p with
 | false =>
  rw [gU] at hG;rw [if_neg aK];refine df Tryz.func31 Tryz.ntmps31 ?_;refine GW.wk (Wk.oq 3 1) ?_;simp only [nil_append];refine ae ?_;refine ab [] hG ?_;refine jo ?_;exact rG (n:=1) rfl cy rfl (Nat.le_of_ble_eq_true rfl) rfl rfl ⟨none,0,rfl,rfl⟩
 | true =>
  rw [gU] at hG;rw [if_pos rfl];have hA:=O9 p hw gU;have Po:=rb p
  have UE:=fun a=>(jA (p:=p) (fn:=a)).nodup
  have UP:=fun a=>(jA (p:=p) (fn:=a)).rng
  have UD:=wh Po (n:=p.fns.length) UE UP;refine df Tryz.func31 Tryz.ntmps31 ?_;refine GW.wk (Wk.oq 3 1) ?_;simp only [nil_append];refine GW.seq ?_;refine GW.region ?_;refine GL.Jw rfl rfl ?_;refine b8 ?_;refine ae ?_;refine ab [] hG ?_;refine gQ [] hA ?_;refine GL.Ko rfl rfl rfl rfl rfl rfl rfl ?_;refine b8 ?_;refine ae ?_
  have Un:=fun (told:List Int) (ht:told.length<=1048576) (k:Nat) (hk:k < p.fns.length) (h:Value)=>Tq p hw gU told ht hk h
  have XX:=fun (told:List Int) (k:Nat) (hk:k < p.fns.length) (hc:told.contains (k:Int)=false)=>KZ (F:=bq p) Po (n:=p.fns.length) UP (told:=told) (k:=(k:Int)) ah hc
  unfold lq at Un;generalize dQ (fS (bq p) p.fns.length)=R at *;refine GW.loop (fun j:Nat=>p.fns.length - j) (fun j fr Γ=>∃ a c S,j<=p.fns.length/\fr=[.U,.box (ay p) 0,.U,.box [.sl 1 R] 0,.loc 1 0,.loc 2 0,.U,.U,.U,.U,.U,.U,.U,.U,.U,.U,.U,.U,.U,.U,.U,.U,.U,.U,.U,.U,.U,.U,.U,.U,.U,.U,.U,.U,.U,.U,.U,.U,.U,.U,.U,.U,.U,.U]/\Γ=[.vech 3 1 S (.slice a j c),.box 78 [.fn (.func 65) [] [.box [.sl 1 R] 0]],.box 40 [.v (.slice a j c)]]/\S=aZ (gJ (bq p) p.fns.length j)) 0 ?_ ?_
  ·exact ⟨_,_,Wk.aD ar,none,0,[],Nat.zero_le _,rfl,rfl,rfl⟩
  ·rintro j _ _ ⟨a,c,S,hj,rfl,rfl,hS⟩;have UC:=UD j hj
   have jO:S.length=j:=by rw [hS,eh,UC]
   by_cases ao:j < p.fns.length
   ·have hd:decide ((j:Int) < ((p.fns.map ax).length:Int))=true:=by rw [pK];simpa using ao
    obtain ⟨f,-,hf,oD,bN,b7⟩:=xV Po (n:=p.fns.length) UE UP (told:=gJ (bq p) p.fns.length j) ah;have mx:gJ (bq p) p.fns.length (j+1)=gJ (bq p) p.fns.length j++[(f:Int)]:=b7
    have ri:aZ (gJ (bq p) p.fns.length (j+1))=S++[[.v (ii (f:Int))]]:=by rw [mx,hS];simp [aZ]
    clear b7 mx;have Uo:=Un (gJ (bq p) p.fns.length j) ah;have Zt:=XX (gJ (bq p) p.fns.length j);rw [<-hS] at Uo
    have hCt:∀ k:Nat,GF Tryz.prog 56 [.sl 1 S,.v (ii (k:Nat))] [] (.v (.bool ((gJ (bq p) p.fns.length j).contains (k:Int)))) []:=fun k=>by
     rw [hS];exact ov _ (k:Int) ah
    have Q2:(gJ (bq p) p.fns.length j).contains (f:Int)=false:=by
     have:=(xr.1 oD).2
     cases hc:(gJ (bq p) p.fns.length j).contains (f:Int) with
     | false=>rfl
     | true=>exact absurd (List.contains_iff_mem.1 hc) this
    clear hS Un XX;generalize gJ (bq p) p.fns.length j=o at *;refine ae ?_;refine GW.range (p.fns.map ax).length (fun k fr Γ=>k<=f/\fr=[.U,.box (ay p) 0,.U,.box [.sl 1 R] 0,.loc 1 0,.loc 2 0,.U,.U,.U,.U,.U,.U,.U,.U,.U,.U,.U,.U,.U,.U,.U,.sl 3 (p.fns.map ax),.v (ii ((p.fns.map ax).length:Int)),.v (ii (k:Nat)),.U,.U,.U,.U,.U,.U,.U,.U,.U,.U,.U,.U,.U,.U,.U,.U,.U,.U,.U,.U]/\Γ=[.vech 3 1 S (.slice a j c),.box 78 [.fn (.func 65) [] [.box [.sl 1 R] 0]],.box 40 [.v (.slice a j c)]]) ?_ ah ?_ ?_ ?_
    ·exact ⟨_,_,Wk.aD ar,Nat.zero_le _,rfl,rfl⟩
    ·rintro k _ _ ⟨_,rfl,rfl⟩;exact dO
    ·rintro k _ _ hk ⟨XI,rfl,rfl⟩;rw [pK] at hk;have hC:=hCt k;have hW:=Uo k hk (.slice a j c);obtain ⟨ks,u6,Q0⟩:=LH p hw gU hk;refine Jg ?_;refine GL.Ko rfl rfl rfl rfl rfl rfl rfl ?_;refine b8 ?_;refine ae ?_;refine GL.borrow hC (fun B K β w l hI hF=>yY (A:=[]) hI hF rfl rfl) ?_;refine b8 ?_
     cases hc:o.contains (k:Int) with
     | true =>
      have rO:k≠f:=fun e=>by subst e;rw [Q2] at hc;cases hc
      refine bH ?_;refine ae ?_;exact ⟨rfl,rfl,_,_,Wk.aD ar,by omega,rfl,rfl⟩
     | false =>
      have Df:=Zt k hk hc
      by_cases he:k=f
      ·subst he;rw [oD] at Df
       have Df:tG (bq p) p.fns.length o (k:Int)=false:=by simpa using Df
       rw [Df] at hW;refine ae ?_;refine aJ (aC 0 3 (.q 5 (.a 3 (.a 4 (.a 6 (.q 7 .nil)))))) ?_;refine au ?_;refine aE [] u6 ?_;refine aE [] Q0 ?_;refine aE [0,1,2] hW ?_;refine ae ?_;refine GL.jx 0 rfl rfl rfl rfl rfl rfl rfl rfl jO mc ?_;intro a2 c2;refine bT ?_;refine bH ?_;refine ae ?_;exact ⟨j+1,⟨_,_,Wk.aD ar,a2,c2,_,ao,rfl,rfl,ri.symm⟩,by show p.fns.length - (j+1) < p.fns.length - j;omega⟩
      ·rw [bN k ah] at Df
       have Df:tG (bq p) p.fns.length o (k:Int)=true:=by simpa using Df
       rw [Df] at hW;refine ae ?_;refine aJ (aC 0 3 (.q 5 (.a 3 (.a 4 (.a 6 (.q 7 .nil)))))) ?_;refine au ?_;refine aE [] u6 ?_;refine aE [] Q0 ?_;refine aE [0,1,2] hW ?_;refine ae ?_;exact ⟨rfl,rfl,_,_,Wk.aD ar,by omega,rfl,rfl⟩
    ·rintro _ _ ⟨XI,rfl,rfl⟩;rw [pK] at XI;omega
   ·have hd:decide ((j:Int) < ((p.fns.map ax).length:Int))=false:=by rw [pK];simpa using ao
    have hjn:j=p.fns.length:=by omega
    subst hjn;refine bH ?_;refine ae ?_;refine jo ?_;exact rG (n:=1) rfl cy rfl (Nat.le_of_ble_eq_true rfl) rfl rfl ⟨a,c,by rw [UC];rfl,by rw [UC,<-hS];rfl⟩
end Go.Xg
