/- Part 11 of proofs that are told in their last texts. -/
import Derived.Test.YtfahcenafcklmaaGreatDoorQ3
import Derived.Test.YtfahcenafcklmaaGreatDoorQ8
import Derived.Test.YtfahcenafcklmaaGreatDoorQ7
import Derived.Test.YtfahcenafcklmaaGreatDoorQ6
import Derived.Test.YtfahcenafcklmaaGreatDoorQ9
import Derived.Lib.SlicesCompact
import Derived.Test.YtfahcenafcklmaaGreatDoorQ5
import Derived.Lib.OwnBridge
import Derived.Lib.AppendIntMem
open List (mem_append mem_singleton nil_append)
set_option linter.unusedVariables false
set_option linter.unusedSimpArgs false
set_option maxRecDepth 100000
set_option maxHeartbeats 4000000
namespace Go.Xg
open Go.RowKit Go.Xw Go.Proofs Go.Im
attribute [local irreducible] GW GL GO YG GC GA aU aW
theorem Kz:∀ l:List Int,oG (l.map fun i=>[GV.v (ii i)])=true
 | []=>rfl
 | a::l=>by
  have:=Kz l;rw [List.map_cons,oG,this];rfl
end Go.Xg
namespace Go.Im
open Go.Xp Go.Sp
def Nz (x y:Int):Bool:=decide (x<=y)
structure Cpt (d:Array Int) (m:Nat):Prop where
 rise:kg (Go.Lib.compactUpTo d m)
 le:∀ x∈Go.Lib.compactUpTo d m,0 < m/\x<=d[m - 1]!
 mem:∀ x,x∈Go.Lib.compactUpTo d m↔∃ i,i < m/\d[i]! = x
 len:(Go.Lib.compactUpTo d m).length<=m
theorem Yf {d:Array Int} {n:Nat} (hs:∀ i,i+1 < n->d[i]! <= d[i+1]!):∀ m,m<=n->Cpt d m:=by
 intro m
 induction m with
 | zero=>intro _;exact ⟨List.Pairwise.nil,fun x hx=>(by cases hx),fun x=>(by simp [Go.Lib.compactUpTo]),aI _⟩
 | succ m ih =>
  intro hm;obtain ⟨I,G,h3,h4⟩:=ih zgb;have e:=Go.Lib.compactUpTo_succ d m
  by_cases hk:Go.Lib.keeps d m=true
  ·rw [ah hk] at e
   have au:∀ x∈Go.Lib.compactUpTo d m,x < d[m]! := fun x hx=>by
    obtain ⟨h5,h6⟩:=G x hx;have h7:=hs (m - 1) zgb;rw [Nat.sub_add_cancel h5] at h7
    have:d[m]! ≠ d[m - 1]! := by
     unfold Go.Lib.keeps at hk;simp only [decide_eq_true_eq] at hk
     rcases hk with h | h
     ·omega
     ·exact h
    omega
   refine ⟨?_,fun x hx=>?_,fun x=>?_,?_⟩
   ·rw [e];unfold kg at *;rw [List.pairwise_append];exact ⟨I,by simp,fun a ha b hb=>by rw [mem_singleton] at hb;rw [hb];exact au a ha⟩
   ·rw [e,mem_append,mem_singleton] at hx;rw [Nat.add_sub_cancel]
    rcases hx with h | h
    ·have:=au x h;omega
    ·omega
   ·rw [e,mem_append,mem_singleton,h3];constructor
    ·rintro (⟨i,hi,hx⟩ | hx)
     ·exact ⟨i,by omega,hx⟩
     ·exact ⟨m,by omega,hx.symm⟩
    ·rintro ⟨i,hi,hx⟩
     by_cases him:i=m
     ·subst him;exact .inr hx.symm
     ·exact .inl ⟨i,by omega,hx⟩
   ·rw [e,aL];simp;omega
  ·rw [ab hk,dN] at e
   have hm0:0 < m:=by
    rcases Nat.eq_zero_or_pos m with h | h
    ·subst h;exact absurd (by simp [Go.Lib.keeps]) hk
    ·exact h
   have heq:d[m]! = d[m - 1]! := by
    unfold Go.Lib.keeps at hk;simp only [decide_eq_true_eq,not_or] at hk;exact Decidable.not_not.1 hk.2
   refine ⟨by rw [e];exact I,fun x hx=>?_,fun x=>?_,by rw [e];omega⟩
   ·rw [e] at hx;rw [Nat.add_sub_cancel,heq];exact ⟨by omega,(G x hx).2⟩
   ·rw [e,h3];constructor
    ·rintro ⟨i,hi,hx⟩;exact ⟨i,by omega,hx⟩
    ·rintro ⟨i,hi,hx⟩
     by_cases him:i=m
     ·subst him;exact ⟨i - 1,by omega,by rw [<-heq];exact hx⟩
     ·exact ⟨i,by omega,hx⟩
def iT (l:List Int):List Int:=l.mergeSort Nz
theorem HT (l:List Int):(iT l).Perm l:=List.mergeSort_perm l Nz
theorem pQ (l:List Int):(iT l).length=l.length:=(HT l).length_eq
theorem Av {l:List Int} {x:Int}:x∈iT l↔x∈l:=(HT l).mem_iff
theorem Ml (l:List Int):(iT l).Pairwise (·<=·):=by
 have:=List.pairwise_mergeSort (le:=Nz) (fun a b c I G=>by unfold Nz at *;simp at *;omega) (fun a b=>by unfold Nz;simp;omega) l
 exact this.imp fun {a b} h=>by unfold Nz at h;simpa using h
theorem Z2 (l:List Int):Go.Lib.compact (iT l)=r9 l/\(Go.Lib.compact (iT l)).length<=(iT l).length:=by
 have hs:=Ml l
 have hg:∀ i,i < (iT l).length->∃ x,(iT l)[i]?=some x/\(iT l).toArray[i]! = x:=fun i hi=>⟨(iT l)[i],bV _,by simp [getElem!_pos,hi]⟩
 have h:=Yf (d:=(iT l).toArray) (n:=(iT l).length) (fun i hi=>by
  rw [List.pairwise_iff_getElem] at hs;have:=hs i (i+1) zgb hi zgb
  simpa [getElem!_pos,hi,show i < (iT l).length by omega] using this) _ (aI _)
 refine ⟨E8 h.rise (vL l) fun x=>?_,h.len⟩;unfold Go.Lib.compact;rw [h.mem,Ao];constructor
 ·rintro ⟨i,hi,hx⟩;obtain ⟨y,hy,he⟩:=hg i hi;rw [he] at hx;subst hx;exact Av.1 (bo hy)
 ·intro hx;obtain ⟨i,hi⟩:=List.getElem?_of_mem (Av.2 hx);have au:=(bB hi).1;obtain ⟨y,hy,he⟩:=hg i au;rw [hi] at hy;cases hy;exact ⟨i,au,he⟩
theorem Yb (p:Src) (s:List Int) (a:Nat) (t:T) (ls:List ae):(il p s a t ls).length<=s.length+1:=by
 unfold il;rw [aL];have:=FJ p t.n;omega
end Go.Im
namespace Go.Xg
open Go.RowKit Go.Xw Go.Proofs Tryz Go.Im
section
variable {P:Program} {m:Nat} {fr:List GV} {Γ:List Ob}
end
theorem Inv.renew {B:Bs} {K:Fz} {β:Bt} {Γ:List Ob} {w w':World} {i E k:Nat} {rows rows':List (List GV)} {x:Value} {xs:List Value} (h:Inv B K β Γ w) (hi:Γ[i]?=some (.vech E k rows x)) (hl:rows'.length=rows.length)
  (ho:jH w' 0 E k x rows'.length xs) (hr:bC K β xs rows'.flatten) (fA:kp k rows') (hx:Ext (fun b=>x.ownBlock=some b) w w'):Inv B K β (oset Γ i (.vech E k rows' x)) w':=by
 obtain ⟨xs0,I,G,h3,h4,h5⟩:=h.ob i _ hi
 have eN:∀ b,x.ownBlock=some b->(β i).has b:=fun b hb=>by rw [I];exact hb
 rw [bQ];refine ⟨h.ext.step hx (fun j hj=>(h.own i j (eN j hj)).symm),h.kle,h.ble,h.loc,h.fz.ext hx (fun b o g hg he=>by rw [h5 b he o] at hg;cases hg),fun j y hj=>?_,fun j hj=>h.out j zgp,h.dis,h.own,h.kn,h.tab.step hx (fun j hj=>⟨i,eN j hj⟩) (df.refl K) (fun i b2 h=>.inl ⟨i,h⟩)⟩;rw [fb] at hj;split at hj
 ·rename_i fy;split at hj
  ·cases hj;subst fy
   exact ⟨xs,by rw [hl];exact I,ho,hr,fA,h5⟩
  ·cases hj
 ·rename_i fy;exact (h.ob j y hj).ext hx (fun b hb he=>fy (h.dis i j b (eN b he) hb)) (df.refl K) (eg.refl β) rfl (fun _ _ _ h=>h)
theorem Hr (l:List Int):(be l).flatten=l.map fun i=>GV.v (ii i):=by
 unfold be
 induction l with
 | nil=>rfl
 | cons a l ih=>rw [List.map_cons,List.flatten_cons,ih];rfl
theorem eK (l:List Int):(be l).length=l.length:=by simp [be]
theorem Nu (l:List Int):kp 1 (be l):=fun r hr=>by
 obtain ⟨i,_,rfl⟩:=vb.1 hr;exact ⟨rfl,fun g hg=>by rw [xq hg];rfl⟩
theorem HQ {K:Fz} {β:Bt} (l:List Int):bC K β (l.map (Value.int .i64)) ((be l).flatten):=by
 rw [Hr];refine ⟨by simp,fun i v g I G=>?_⟩;rw [bp] at I G
 cases hl:l[i]? with
 | none=>rw [hl] at I;cases I
 | some z=>rw [hl] at I G;cases I;cases G;exact .v _
theorem AN {K:Fz} {β:Bt} {xs:List Value} {l:List Int} (h:bC K β xs ((be l).flatten)):xs=l.map (Value.int .i64):=by
 rw [Hr] at h;apply List.ext_getElem?;intro i;rw [bp]
 cases hl:l[i]? with
 | none =>
  have:=h.1;rw [bM] at this;have G:=pS hl;rw [List.getElem?_eq_none X];rfl
 | some z =>
  obtain ⟨v,hv,hr⟩:=h.at (i:=i) (g:=.v (ii z)) (by rw [bp,hl];rfl);rw [hv,Rel.eJ hr];rfl
theorem MQ {w:World} {g q:Nat} {d:Array Int} {os:Array Obj}:Ext (fun b=>b=g) w (Go.Sort.grow (Go.Sort.putRow (Value.int .i64) (Go.Sort.ahead w q) g 0 d) os):=by
 refine ⟨rfl,rfl,rfl,by simp [Go.Sort.grow,Go.Sort.putRow,Go.Sort.mapBlock,Go.Sort.ahead],fun k hk hn=>?_⟩;simp only [Go.Sort.grow,Go.Sort.putRow,Go.Sort.mapBlock,Go.Sort.ahead];rw [Array.getElem?_append_left zgy,Array.getElem?_modify,ab X]
theorem XD {K:Fz} {β:Bt} {vs:List Value} {x:Value} (h:bC K β vs [.v x]):vs=[x]:=by
 match vs,h.1 with
 | [v],_=>rw [Rel.eJ h.rj.1]
theorem Qw (zs:List Int) (E:TypeId) (a:Option Addr) (c:Nat) (hz:zs.length<=1099511627776) :
  GF prog 110 [.v (.slice a zs.length c)] [.vech E 1 (be zs) (.slice a zs.length c)] (.tup []) [.vech E 1 (be (iT zs)) (.slice a zs.length c)]:=fun B K β w vs hm hI hF=>by
 obtain rfl:=XD hF;obtain ⟨xs,I,G,h3,h4,h5⟩:=hI.ob 0 _ rfl;have sX:=AN h3;subst sX;rw [eK] at G
 by_cases hn:(Value.slice a zs.length c)=.slice none 0 0
 ·injection hn with e1 e2 e3
  have Np:zs=[]:=ig e2;subst Np;subst e1;refine pV.tg (Calls.mono (slices_Sort_int_none none c w) ?_);rintro e w' ⟨he,rfl⟩;exact ⟨_,he,K,β,.tup [],_,hI,.tup [] [] rfl (fun i v g h=>by simp at h),rfl,by rw [show iT []=[] by simp [iT]]⟩
 ·obtain ⟨g,cap,hv,qU,hgw,ui,CW,hzl,hH⟩:=Go.Lib.holds_of_ownsRow G hn
  injection hv with e1 e2 e3
  subst e1;subst e3;refine pV.tg (Calls.mono (slices_Sort_int g 0 c zs w hH hgw X) ?_);rintro e w' ⟨he,n,os,rfl⟩;have gT:=Go.Lib.ownsRow_putRow (q:=n) (k:=zs.length) (ys:=iT zs) G (pQ zs) (aI _);rw [n7 (by rw [pQ];exact aI _)] at gT;have Pc:=Go.Lib.ownsRow_grow gT 0 os;refine ⟨_,he,K,β,.tup [],_,hI.renew (i:=0) rfl (rows':=be (iT zs)) (xs:=(iT zs).map (Value.int .i64)) (by rw [eK,eK,pQ]) ?_ (HQ _) (Nu _) ?_,.tup [] [] rfl (fun i v g h=>by simp at h),rfl,rfl⟩
  ·rw [eK,pQ];exact Pc
  ·exact (MQ (w:=w) (g:=g) (q:=n) (d:=(iT zs).toArray) (os:=os)).mono fun b _ hb=>by rw [hb];rfl
theorem V4 {K:Fz} {β:Bt} {g n c k:Nat} {rows:List (List GV)} (h:Rel K β (.slice (some ⟨g,0,none⟩) n c) (.sl k rows)) (cj:rows≠[]) :
  ∀ (i:Nat) r,rows[i]?=some r->r.length=k/\∀ (j:Nat) gg,r[j]?=some gg->K g (0+i * k+j)=some gg:=by
 generalize hv:Value.slice (some ⟨g,0,none⟩) n c=v at h
 cases h with
 | sl0 a c k=>exact absurd rfl cj
 | sl b o c k rows h hc =>
  injection hv with e1 e2 e3
  injection e1 with e1
  injection e1 with e1 e4
  subst e1;subst e4;exact h
theorem Qi (zs:List Int) (E:TypeId) (a:Option Addr) (c:Nat) (hz:zs.length<=1099511627776) (Bh:(Go.Lib.compact zs).length<=zs.length) :
  GC prog 111 [.v (.slice a zs.length c)] [.vech E 1 (be zs) (.slice a zs.length c)] fun g Δ=>g=ints (Go.Lib.compact zs)/\∃ fz S,Δ=[.vec E 1 fz S]:=fun B K β w vs hm hI hF=>by
 obtain rfl:=XD hF;obtain ⟨xs,I,G,h3,h4,h5⟩:=hI.ob 0 _ rfl;have sX:=AN h3;subst sX;rw [eK] at G
 by_cases Np:zs=[]
 ·subst Np;refine pV.tg (Calls.mono (slices_Compact_int_empty a c w) ?_);rintro e w' ⟨he,rfl⟩;exact ⟨_,he,K,β,ints [],_,hI.BX (i:=0) rfl,.sl0 a c 1,rfl,_,_,rfl⟩
 ·have hn:(Value.slice a zs.length c)≠.slice none 0 0:=fun hn=>by
   injection hn with e1 e2 e3
   exact Np (ig e2)
  obtain ⟨g,cap,hv,qU,hgw,ui,CW,hzl,hH⟩:=Go.Lib.holds_of_ownsRow G hn
  injection hv with e1 e2 e3
  subst e1;subst e3;refine pV.tg (Calls.mono (slices_Compact_int g 0 c zs w hH X ui) ?_);rintro e w' ⟨he,q,rfl⟩;generalize hcz:Go.Lib.compact zs=cz at *;generalize hys:cz++List.replicate (zs.length - cz.length) (0:Int)=ys at *
  have Xk:ys.length=zs.length:=by rw [<-hys,aL,List.length_replicate];omega
  have gT:=Go.Lib.ownsRow_putRow (q:=q) (k:=zs.length) (ys:=ys) G Xk (aI _);rw [n7 X] at gT;have vj:=hI.renew (i:=0) rfl (rows':=be ys) (xs:=ys.map (Value.int .i64)) (w':=Go.Sort.putRow (Value.int .i64) (Go.Sort.ahead w q) g 0 ys.toArray) (by rw [eK,eK,Xk]) (by rw [eK,Xk];exact gT) (HQ _) (Nu _)
   (by
    have:=(MQ (w:=w) (g:=g) (q:=q) (d:=ys.toArray) (os:=#[]));rw [Go.Sort.grow_empty] at this
    exact this.mono fun b _ hb=>by rw [hb];rfl)
  obtain ⟨K',hK,hr,hI3⟩:=vj.sr (i:=0) rfl;refine ⟨_,he,K',β,ints cz,_,hI3,?_,rfl,_,_,rfl⟩
  have nz:zs.length=(be ys).length:=by rw [eK,Xk]
  rw [nz] at hr;have aaq:=V4 hr (fun e=>Np (ig (by rw [nz,e];rfl)))
  have aar:cz.length=(cz.map fun i=>[GV.v (ii i)]).length:=by simp
  rw [aar];refine .sl g 0 c 1 _ (fun i r h=>?_) (by rw [<-aar];omega);refine aaq i r ?_;have hi:=(bB h).1;rw [bM] at hi;rw [<-hys];unfold be;rw [l9,gm (by rw [bM];exact hi)];exact h
open Go.Xp (Nd T)
open Go.Sp (Src)
attribute [local irreducible] GW GL GO YG GC GA aU aW
theorem Zp (p:Src) (a:Nat) (n:Nd) (l:List T) (ls:List ae) (s:List Int) (E1:TypeId) (eb:Option Addr) (ec:Nat) (ad:Option Addr) (cp:Nat) (hn:p.nodes[a]?=some n) (jZ:p.fns.length<=1099511627776) (hs:s.length<=1048576000) :
  GC prog 108 [.v (ii (a:Nat)),.v (.slice ad ls.length cp),.box (aq p) 0,.loc 0 0] [.box E1 [.v (.slice eb s.length ec)],.vech 3 1 (be s) (.slice eb s.length ec),.vech 9 1 (br ls) (.slice ad ls.length cp)] fun g Δ=>g=.tup []/\∃ pY pZ,
   Δ=[.box E1 [.v (.slice pY (il p s a (.mk n l) ls).length pZ)],.vech 3 1 (be (il p s a (.mk n l) ls)) (.slice pY (il p s a (.mk n l) ls).length pZ),.vech 9 1 (br ls) (.slice ad ls.length cp)]:=by
 have hr:=iv hn;have nB:=eK s;have hA:=Ru p n.s jZ;have e0:du (fun x:Go.Sp.Fn=>x.name==n.s) p.fns=rv p n.s:=rfl;rw [e0] at hA;have e:il p s a (.mk n l) ls=s++(if n.kind=4/\0<=rv p n.s then [rv p n.s] else []):=rfl;rw [e];unfold aV at hr;generalize rv p n.s=z at *
 cases I:(n.kind==4) with
 | false =>
  rw [ab (fun h=>by rw [h.1] at I;cases I),dN];exact zcI
 | true =>
  cases G:decide ((0:Int)<=z) with
  | false =>
   rw [ab (fun h=>by have:=of_decide_eq_false G;exact this h.2),dN];exact zcI
  | true =>
   rw [ah ⟨by simpa using I,by simpa using G⟩];refine ai func108 ntmps108 ?_;refine zbD ?_;refine aC [] hA ?_;refine D ?_;refine zai ?_;intro oK oN;refine zaq ?_;refine c8 ?_;exact ⟨rfl,oK,oN,by simp [be]⟩
open GV (U)
open Go.Xp (aQ aB dy)
def Lg (p:Src):GV:=.fn (.func 108) [] [.box (aq p) 0,.loc 0 0]
def XN (p:Src):GV:=.fn (.func 167) [] [.loc 2 0,.loc 3 0,.box (aq p) 0,.loc 4 0]
def XE (E1:TypeId) (s:List Int) (eb:Option Addr) (ec:Nat):List Ob:=[.box E1 [.v (.slice eb s.length ec)],.vech 3 1 (be s) (.slice eb s.length ec)]
def HK (p:Src) (E1 E2 E3 E4:TypeId) (s:List Int) (ls:List ae) (ad:Option Addr) (cp:Nat) (eb:Option Addr) (ec:Nat):List Ob :=
 [.box E1 [.v (.slice eb s.length ec)],.vech 3 1 (be s) (.slice eb s.length ec),.box E2 [Lg p],.box E3 [.v (.slice ad ls.length cp)],.box E4 [XN p],.vech 9 1 (br ls) (.slice ad ls.length cp)]
theorem Wf (p:Src) (E1 E2 E3 E4:TypeId) (hp:p.nodes.length<=1048576) (eh:∀ n∈p.nodes,n.kids.length<=1099511627776) (jZ:p.fns.length<=1099511627776):∀ (N:Nat) (t:T),aQ t<=N->∀ (a:Nat) (s:List Int) (ls:List ae) (ad:Option Addr) (cp:Nat) (eb:Option Addr) (ec:Nat),ek p.nodes a t->ls.length+aQ t<=8388608->s.length+aQ t<=8388608 ->
  GC prog 167 [.v (ii (a:Nat)),.loc 2 0,.loc 3 0,.box (aq p) 0,.loc 4 0] (HK p E1 E2 E3 E4 s ls ad cp eb ec) fun g Δ=>g=.tup []/\∃ iL iM pY pZ,Δ=HK p E1 E2 E3 E4 (fF (il p) t a s ls).1 (fF (il p) t a s ls).2 iL iM pY pZ:=by
 intro N
 induction N with
 | zero=>intro t h;exact zcF
 | succ N ih =>
 intro t hN a s ls ad cp eb ec b6 gW sW
 cases t with
 | mk n l =>
 rw [Go.Xp.aQ] at hN gW sW;have Pf:=b6;rw [ek] at b6;obtain ⟨hn,hk,nB⟩:=b6;rw [fF];have hr:=iv hn;have qe:=eh n (bo hn);have ht:=Zp p a n l ls s E1 eb ec ad cp hn jZ X;have adC:((il p) s a (.mk n l) ls).length<=s.length+1:=Yb _ _ _ _ _;generalize kE:(il p) s a (.mk n l) ls=s1 at *
 have qE:n.kids.length=l.length:=by rw [hk,dy]
 unfold aV at hr;unfold HK Lg XN;refine ai func167 ntmps167 ?_;refine GL.oB [0,1,5] ht rfl rfl rfl (by repeat (first | exact trivial | refine ⟨rfl,?_⟩)) ?_;rintro _ _ ⟨rfl,eb,ec,rfl⟩;refine zas ?_;refine GW.range (n.kids.map fun i=>[GV.v (ii i)]).length (fun k fr Γ=>∃ iL iM pY pZ,fr=[.v (ii (a:Nat)),.loc 2 0,.loc 3 0,.box (aq p) 0,.loc 4 0,U,U,U,U,U,U,U,U,U,U,U,U,ints n.kids,.v (ii ((n.kids.map fun i=>[GV.v (ii i)]).length:Int)),.v (ii (k:Nat)),U,U,U,U,U,U,U,U,U,U,U,U,U,U,U,U,U,U,U,U,U,U,U]/\Γ=HK p E1 E2 E3 E4 (cU (il p) (l.take k) (a+1) s1 ls).1 (cU (il p) (l.take k) (a+1) s1 ls).2 iL iM pY pZ) ?_ zgr ?_ ?_ ?_
 ·exact ⟨_,_,Wk.aH ao,ad,cp,eb,ec,rfl,rfl⟩
 ·rintro k _ _ ⟨ad,cp,eb,ec,rfl,rfl⟩;exact dr
 ·rintro k _ _ au ⟨ad,cp,eb,ec,rfl,rfl⟩;rw [bM,qE] at au;obtain ⟨u,hu⟩:∃ u,l[k]?=some u:=⟨l[k],by simp [au]⟩;have ny:=sY (n:=a+1) hu;rw [<-hk] at ny;have sV:=pd ny;have dj:=ku hu;have EG:ek p.nodes (a+1+aB (l.take k)) u:=ey.ix l (a+1) k u nB hu
  have hlen:(cU (il p) (l.take k) (a+1) s1 ls).2.length<=ls.length+aB (l.take k):=by
   exact zcB
  have Io:(cU (il p) (l.take k) (a+1) s1 ls).1.length<=s1.length+aB (l.take k):=by
   rw [I8,aL];have:=IX p (l.take k);omega
  rw [wJ _ hu];generalize (cU (il p) (l.take k) (a+1) s1 ls).1=s2 at *;generalize (cU (il p) (l.take k) (a+1) s1 ls).2=ls2 at *;have hv:=ih u X (a+1+aB (l.take k)) s2 ls2 ad cp eb ec EG X X;unfold HK Lg XN at hv |-;refine D ?_;refine GL.oB [0,1,2,3,4,5] hv rfl rfl rfl (by repeat (first | exact trivial | refine ⟨rfl,?_⟩)) ?_;rintro _ _ ⟨rfl,iL,iM,pY,pZ,rfl⟩;exact ze8
 ·rintro _ _ ⟨ad,cp,eb,ec,rfl,rfl⟩;rw [bM,qE,c7]
  have hlen:(cU (il p) l (a+1) s1 ls).2.length<=ls.length+aB l:=by
   exact zd5
  generalize (cU (il p) l (a+1) s1 ls).1=s2 at *;generalize (cU (il p) l (a+1) s1 ls).2=ls2 at *;have vn:(br ls2).length=ls2.length:=mO ls2;unfold HK Lg XN;refine bc ?_
  cases hv:(n.kind==13) with
  | false =>
   exact zdT
  | true =>
   refine zap ?_;refine OA rfl rfl (GL.nF 5 (news:=[[.v (sv n.s)]]) rfl rfl rfl az rfl rfl (by refine ⟨?_,?_⟩;(· show _+1<=_;omega);(· show (_+1) * _<=_;omega)) ?_);intro oK oN;exact ze3
theorem Yh (p:Src) (E1:TypeId) (i:Nat) (f:Go.Sp.Fn) (t:T) (s:List Int) (eb:Option Addr) (ec:Nat) (hp:p.nodes.length<=1048576) (eh:∀ n∈p.nodes,n.kids.length<=1099511627776) (jZ:p.fns.length<=1099511627776)
  (hf:p.fns[i]?=some f) (qx:f.params.length<=1048576) (hb:0<=f.body) (b6:ek p.nodes f.body.toNat t) (dj:aQ t<=1048576) (hs:s.length+aQ t<=8388608) :
  GC prog 101 [.agg (aq p),.v (ii (i:Nat)),Lg p] (XE E1 s eb ec) fun g Δ=>g=.tup []/\∃ pY pZ,Δ=XE E1 (fF (il p) t f.body.toNat s f.params).1 pY pZ:=by
 have hr:(p.fns.map aw)[i]?=some (aw f):=by rw [bp,hf];rfl
 have cH:(f.params.map fun s=>[GV.v (sv s)]).length=f.params.length:=by simp
 have eP:=rb f.params;obtain ⟨b,sR⟩:∃ b:Nat,f.body=(b:Int):=⟨f.body.toNat,by omega⟩;rw [sR,iK] at b6 |-;unfold aw at hr;rw [sR] at hr;unfold Lg XE;refine dh func101 ntmps101 ?_;refine zal ?_;refine GL.xz 4 rfl rfl rfl rfl eP (by refine ⟨?_,?_⟩;(· rw [cH];omega);(· rw [cH];omega)) ?_;intro ad cp;rw [cH];refine ct ?_;simp only [nil_append,List.length_nil,dJ];refine D ?_;refine GW.Ef (cV:=[U,.v (ii (i:Nat)),U,.box (aq p) 0,U,.loc 3 0,.loc 5 0,.loc 6 0,U,U,U,U,U,U,U,U,U,U,U,U,U,U,U,U]) (aZ:=[.box E1 [.v (.slice eb s.length ec)],.vech 3 1 (be s) (.slice eb s.length ec),.gone,.box _ [.fn (.func 108) [] [.box (aq p) 0,.loc 0 0]],.vech 9 1 (br f.params) (.slice ad f.params.length cp),.box _ [.v (.slice ad f.params.length cp)],.box _ [.fn (.func 167) [] [.loc 3 0,.loc 5 0,.box (aq p) 0,.loc 6 0]]]) ao rfl ?_;refine zc1 ?_;have hv:=Wf p E1;refine OA rfl rfl (GL.oB [0,1,3,5,6,4] (hv _ _ _ hp eh jZ _ t (aI _) b s f.params ad cp eb ec b6 X hs) rfl rfl rfl (by repeat (first | exact trivial | refine ⟨rfl,?_⟩)) ?_);rintro _ _ ⟨rfl,iL,iM,pY,pZ,rfl⟩;refine ⟨by simp [HK],?_⟩;unfold HK;refine zaL ?_;refine c8 ?_;exact ⟨rfl,pY,pZ,rfl⟩
end Go.Xg
namespace Go.Im
open Go.Xp Go.Sp
def mQ (p:Src) (l:List T) (x:Int):List Int:=match l[x.toNat]? with | some t=>bS p t | none=>[]
theorem yD (p:Src) (l:List T) (x:Int):∀ y∈mQ p l x,0<=y/\y < (p.fns.length:Int):=by
 intro y hy;unfold mQ at hy;split at hy
 ·exact qp p _ y hy
 ·simp at hy
structure Trail (p:Src) (L:List Int):Prop where
 nodup:L.Nodup
 rng:∀ y∈L,0<=y/\y < (p.fns.length:Int)
theorem Trail.len {p:Src} {L:List Int} (h:Trail p L):L.length<=p.fns.length:=BJ h.nodup h.rng
theorem Trail.add {p:Src} {L ks:List Int} (h:Trail p L) (hk:∀ y∈ks,0<=y/\y < (p.fns.length:Int)):Trail p (addN L ks) :=
 ⟨zu h.nodup,fun y hy=>by
  rcases sx.1 hy with I | I
  ·exact h.rng y I
  ·exact hk y I⟩
def qw (p:Src) (l:List T) (L:List Int):List Int:=oM (mQ p l) (p.fns.length+1) 0 L
theorem IM {cs:Int->List Int} {f i:Nat} {L:List Int} {x:Int} (h:L[i]?=some x):oM cs (f+1) i L=oM cs f (i+1) (addN L (cs x)):=by rw [oM,h]
theorem IP {cs:Int->List Int} {f i:Nat} {L:List Int} (h:L.length<=i):oM cs f i L=L:=by
 cases f with
 | zero=>rfl
 | succ f=>rw [oM,List.getElem?_eq_none h]
theorem B7 {p:Src} {l:List T}:∀ (f i:Nat) (L:List Int),Trail p L->Trail p (oM (mQ p l) f i L)
 | 0,i,L,h=>h
 | f+1,i,L,h=>by
  rw [oM];split
  ·exact h
  ·exact B7 f (i+1) _ (h.add (yD p l _))
theorem A1 {l:List Int} {k:Nat} {x n:Int} (h:l[k]?=some x) (hc:(l.take k).contains n=false) (hx:(x==n)=false):(l.take (k+1)).contains n=false:=by
 rw [dk,h];simp only [List.contains_eq_mem,decide_eq_false_iff_not,mem_append,not_or] at *;refine ⟨hc,?_⟩;simp only [Option.toList_some,mem_singleton];intro e;subst e;simp at hx
theorem I2 {l:List Int} {k:Nat} {x n:Int} (h:l[k]?=some x) (hx:(x==n)=true):l.contains n=true:=by
 have:x=n:=by simpa using hx
 subst this;exact ea.2 (bo h)
theorem Y7 {l:List Int} {n:Int} (h:l.contains n=true):lj l n=l:=by unfold lj;rw [ah h]
theorem AE:∀ (ks l:List Int),(ks.foldl lj l).length<=l.length+ks.length
 | [],l=>by simp
 | k::r,l=>by
  have:=AE r (lj l k);have:=VQ (l:=l) (n:=k);rw [List.foldl_cons,List.length_cons];omega
def o9 (l ks:List Int):List Int:=ks.foldl lj l
theorem PR (l a b:List Int):o9 l (a++b)=o9 (o9 l a) b:=List.foldl_append
theorem PT (l ks:List Int):(o9 l ks).length<=l.length+ks.length:=AE ks l
theorem QO (p:Src) {l:List T} {k:Nat} {u:T} (h:l[k]?=some u) (o:List Int) (n:Nd):o9 o (xC p n++kH p (l.take (k+1)))=o9 (o9 o (xC p n++kH p (l.take k))) (rV p u):=by
 rw [QP p h,<-eF,PR]
theorem PU (ks:List Int):o9 [] ks=r9 ks:=rfl
theorem ry {p:Src} {i:Nat} (hg:de p=true) (hi:i < p.fns.length):eG p (i:Int)=true:=by
 unfold eG;rw [hg,decide_eq_true (show (0:Int)<=(i:Int) by omega),decide_eq_true (show (i:Int) < (p.fns.length:Int) by omega)];rfl
def cZ (p:Src) (fn:Int):List Int:=if eG p fn=true then (match jX p.nodes p.fns 0 [] with | some (l,_)=>qw p l (mQ p l fn) | none=>[]) else []
theorem xF {p:Src} {l:List T} {i:Nat} {f:Go.Sp.Fn} {t:T} (hh:eG p (i:Int)=true) (h:kM p l i f t):cZ p (i:Int)=qw p l (bS p t):=by
 unfold cZ;rw [ah hh,h.good.AB];simp only;unfold mQ;rw [iK,h.gt]
theorem zJ {p:Src} {fn:Int} (h:eG p fn=false):cZ p fn=[]:=by unfold cZ;rw [h];rfl
theorem G8 {p:Src} {fn:Int}:Trail p (cZ p fn):=by
 cases hh:eG p fn with
 | false=>rw [zJ hh];exact ⟨List.Pairwise.nil,by simp⟩
 | true =>
  obtain ⟨i,l,f,t,rfl,h⟩:=mK hh;rw [xF hh h];exact B7 _ _ _ ⟨xg (rp p t),qp p t⟩
def dX (p:Src) (a b:Int):Bool:=(cZ p a).contains b
theorem ON {p:Src} {a b:Int} (h:¬ (0<=b/\b < (p.fns.length:Int))):dX p a b=false:=by
 unfold dX
 cases hc:(cZ p a).contains b with
 | false=>rfl
 | true=>exact absurd (G8.rng b (ea.1 hc)) h
theorem GZ {p:Src} {a b:Int} (h:eG p a=false):dX p a b=false:=by unfold dX;rw [zJ h];rfl
theorem BS (l:List Int) (x:Int):(iT l).contains x=l.contains x:=by
 cases h:l.contains x with
 | true=>exact ea.2 (Av.2 (ea.1 h))
 | false =>
  cases G:(iT l).contains x with
  | false=>rfl
  | true=>rw [ea.2 (Av.1 (ea.1 G))] at h;cases h
theorem MF (p:Src) (l:List T) (x:Int):Trail p (mQ p l x):=by
 refine ⟨?_,yD p l x⟩;unfold mQ;split
 ·exact xg (rp p _)
 ·exact List.Pairwise.nil
end Go.Im
namespace Go.Xg
open Go.RowKit Go.Xw Go.Proofs Tryz Go.Im
open GV (U)
open Go.Xp (T)
open Go.Sp (Src)
attribute [local irreducible] GW GL GO YG GC GA aU aW
theorem yB (p:Src) (hw:b7 p<=1048576) {l:List T} {i:Nat} {f:Go.Sp.Fn} {t:T} (h:kM p l i f t) :
  GF prog 53 [.agg (aq p),.v (ii (i:Nat))] [] (ints (bS p t)) []:=by
 obtain ⟨⟨a1,a2⟩,⟨b1,b2⟩,⟨c1,c2⟩,⟨d1,d2⟩⟩:=dU p;have dj:=h.sz;have Bh:=QQ p _ t (aI _)
 have hE:=fun eb ec=>Yh p 36 i f t [] eb ec X (fun n hn=>by have:=(d2 n hn).2;omega) X h.gf zgC h.body h.st X (by show 0+_<=_;omega)
 rw [WC,nil_append] at hE;obtain ⟨e1,e2⟩:=Z2 (rV p t)
 have hS:=fun a c=>Qw (rV p t) 3 a c X
 have hC:=fun a c=>Qi (iT (rV p t)) 3 a c (by rw [pQ];omega) e2
 rw [e1] at hC;rw [pQ] at hC;unfold Lg XE at hE;unfold bS;generalize r9 (rV p t)=rr at *;generalize iT (rV p t)=ss at *;refine dh func53 ntmps53 ?_;refine GW.wk (Wk.gK 3 1) ?_;simp only [nil_append];refine ji ?_;refine zcd ?_;refine zaN ?_;refine bA [2,0] (hE none 0) ?_;rintro _ _ ⟨rfl,eb,ec,rfl⟩;refine zas ?_;refine V [0] (hS eb ec) ?_;refine bA [0] (hC eb ec) ?_;rintro _ _ ⟨rfl,fz,S,rfl⟩;refine bF ?_;exact ay
theorem G0 (p:Src) (hw:b7 p<=1048576) {l:List T} (hg:Go.Im.Good p l) (L0:List Int) (hL:Trail p L0) :
  GF prog 73 [.agg (aq p),ints L0] [] (ints (iT (qw p l L0))) []:=by
 obtain ⟨⟨a1,a2⟩,⟨b1,b2⟩,⟨c1,c2⟩,⟨d1,d2⟩⟩:=dU p;have hlen:=hg.len;have wT:=hL.len
 have cH:(L0.map fun i=>[GV.v (ii i)]).length=L0.length:=by simp
 have eP:=Kz L0;obtain ⟨N,hN⟩:∃ N,p.fns.length=N:=⟨_,rfl⟩;refine dh func73 ntmps73 ?_;refine GW.wk (Wk.gK 3 1) ?_;refine zd9 ?_;refine GL.xz 0 rfl rfl rfl rfl eP (by refine ⟨?_,?_⟩;(· rw [cH];omega);(· rw [cH];omega)) ?_;intro ad cp;rw [cH];refine ct ?_;simp only [nil_append,List.length_nil,dJ];refine D ?_;refine GW.loop (fun s:Nat × List Int=>N - s.1) (fun s fr Γ=>∃ a c n S,fr=[U,U,.loc 1 0,U,U,.v (.slice a n c),.v (ii (s.1:Nat)),U,U,U,U,U,U,U,U,U,U,U,U,U,U,U,U,U,U,U,U,U,U,U,U,U,U,U,U,U,U,U,U,U]/\Γ=[.vech 3 1 S (.slice a n c),.box 28 (aq p)]/\S.length=n/\S=be s.2/\Trail p s.2/\s.1<=s.2.length/\oM (mQ p l) (N+1 - s.1) s.1 s.2=qw p l L0) (0,L0) ?_ ?_
 ·exact ⟨_,_,Wk.aH ao,ad,cp,_,_,rfl,rfl,cH,rfl,hL,aS _,by rw [<-hN];rfl⟩
 rintro ⟨i,L⟩ _ _ ⟨a,c,n,S,rfl,rfl,fG,hS,hW,hi,he⟩;simp only at hS hW hi he;have nS:=hW.len
 have uj:n=L.length:=by rw [<-fG,hS,eK]
 by_cases au:i < L.length
 ·have hd:decide ((i:Int) < (n:Int))=true:=decide_eq_true X;obtain ⟨x,hx⟩:∃ x,L[i]?=some x:=⟨L[i],by simp [au]⟩
  have hrx:S[i]?=some [.v (ii x)]:=by rw [hS];unfold be;rw [bp,hx];rfl
  have vr:=hW.rng x (bo hx);obtain ⟨j,hj⟩:∃ j:Nat,x=(j:Int):=⟨x.toNat,by omega⟩;subst hj
  have qd:j < p.fns.length:=by omega
  obtain ⟨f,hf⟩:∃ f,p.fns[j]?=some f:=⟨p.fns[j],by simp [qd]⟩;obtain ⟨t,ht⟩:∃ t,l[j]?=some t:=⟨l[j]'X,bV _⟩;have hC:=yB p hw (hg.fn hf ht)
  have jL:mQ p l (j:Int)=bS p t:=by unfold mQ;rw [iK,ht]
  have kU:oM (mQ p l) (N+1 - (i+1)) (i+1) (addN L (bS p t))=qw p l L0:=by
   exact zf3
  have wR:=qp p t;have eh:=uY p t
  have R4:((bS p t).map fun i=>[GV.v (ii i)]).length=(bS p t).length:=by simp
  have C1:i+1<=(addN L (bS p t)).length:=by
   obtain ⟨m,hm⟩:=zw (bS p t) L;rw [hm,aL];omega
  generalize bS p t=ks at *;refine D ?_;refine aM (ax 0 5 (.q 7 (.a 5 (.q 6 .nil)))) ?_;refine aj ?_;refine aC [] hC ?_;refine D ?_;refine GW.range (ks.map fun i=>[GV.v (ii i)]).length (fun k fr Γ=>∃ a c n S,fr=[U,U,.loc 1 0,U,U,.v (.slice a n c),.v (ii (i:Nat)),U,U,U,U,U,U,U,U,U,U,U,U,U,U,U,ints ks,.v (ii ((ks.map fun i=>[GV.v (ii i)]).length:Int)),.v (ii (k:Nat)),U,U,U,U,U,U,U,U,U,U,U,U,U,U,U]/\Γ=[.vech 3 1 S (.slice a n c),.box 28 (aq p)]/\S.length=n/\S=be (addN L (ks.take k))) ?_ X ?_ ?_ ?_
  ·exact ⟨_,_,Wk.aH ao,a,c,n,S,rfl,rfl,fG,hS⟩
  ·rintro k _ _ ⟨a,c,n,S,rfl,rfl,_⟩;exact dr
  ·rintro k _ _ hk ⟨a,c,n,S,rfl,rfl,fG,hS⟩;rw [R4] at hk;obtain ⟨y,hy⟩:∃ y,ks[k]?=some y:=⟨ks[k],by simp [hk]⟩
   have hry:(ks.map fun i=>[GV.v (ii i)])[k]?=some [.v (ii y)]:=by rw [bp,hy];rfl
   have hWk:=hW.add (ks:=ks.take k) fun y hy=>wR y (List.mem_of_mem_take hy)
   have hWl:=hWk.len
   have En:GF prog 52 [.sl 1 S,.v (ii y)] [] (.v (.bool ((addN L (ks.take k)).contains y))) []:=by
    rw [hS];exact rS (addN L (ks.take k)) y X
   have U9:=GP L ks k y hy
   have uh:n<=1048576:=by rw [<-fG,hS,eK];omega
   rw [U9]
   cases hb:(addN L (ks.take k)).contains y with
   | true =>
    rw [hb] at En;rw [ah rfl];refine D ?_;refine GL.borrow En (fun B K β w l hI hF=>fx (A:=[]) (C:=[_]) hI hF rfl rfl) ?_;refine zaN ?_;exact zdl
   | false =>
    rw [hb] at En;rw [ab aD]
    have ug:be (addN L (ks.take k)++[y])=S++[[.v (ii y)]]:=by rw [hS];simp [be]
    rw [ug];clear hS;refine D ?_;refine GL.borrow En (fun B K β w l hI hF=>fx (A:=[]) (C:=[_]) hI hF rfl rfl) ?_;refine zaN ?_;refine za4 ?_;intro a2 c2;refine zaq ?_;exact ⟨rfl,rfl,_,_,Wk.aH ao,a2,c2,_,_,rfl,rfl,by simp [fG],rfl⟩
  ·rintro _ _ ⟨a,c,n,S,rfl,rfl,fG,hS⟩;rw [R4,c7] at hS;refine jl (bc ?_);refine D ?_;exact ⟨(i+1,addN L ks),⟨_,_,Wk.aH ao,a,c,n,S,rfl,rfl,fG,hS,hW.add wR,C1,kU⟩,by show N - (i+1) < N - i;omega⟩
 ·have hd:decide ((i:Int) < (n:Int))=false:=decide_eq_false X;have hb:=IP (cs:=mQ p l) (f:=N+1 - i) (i:=i) (L:=L) X;rw [hb] at he;rw [<-he];have hSo:=Qw L 3 a c X;rw [<-uj,<-hS] at hSo
  have nB:(be (iT L)).length=n:=by rw [eK,pQ,uj]
  refine zbG ?_;refine V [0] hSo ?_;refine GW.wk (Wk.tS (t:=4) (i:=0) rfl rfl rfl) ?_;exact al
theorem Vt (l:List Int) (n:Int) (a:Option Addr) (c:Nat) (hl:l.length<=8388608) :
  GC prog 177 [.v (.slice a l.length c),.v (ii n)] [.vech 3 1 (be l) (.slice a l.length c)] fun g Δ =>
   (l.contains n=true/\g=.v (.slice a l.length c)/\Δ=[.vech 3 1 (be l) (.slice a l.length c)]) \/
   (l.contains n=false/\∃ a' c',g=.v (.slice a' (lj l n).length c')/\Δ=[.vech 3 1 (be l) (.slice a l.length c),.vech 3 1 (be (lj l n)) (.slice a' (lj l n).length c')]):=by
 have nS:=eK l;refine ai func177 ntmps177 ?_;refine lL ?_;refine GL.tK (t:=9) rfl rfl rfl rfl ?_;intro a1 c1;refine zaq ?_;refine GW.range l.length (fun k fr Γ=>∃ a1 c1 m dn S,fr=[.v (.slice a l.length c),.v (ii n),U,U,U,.v (.slice a1 m c1),.v (.bool dn),U,U,U,.v (.slice a l.length c),.v (ii (l.length:Int)),.v (ii (k:Nat)),U,U,U,U,U,U,U,U,U,U,U,U,U,U,U,U,U,U,U,U,U,U,U,U,U,U,U,U,U,U]/\Γ=[.vech 3 1 (be l) (.slice a l.length c),.vech 3 1 S (.slice a1 m c1)]/\S.length=m/\S=be (mg l n k).1/\dn=(mg l n k).2/\(l.take k).contains n=false) ?_ X ?_ ?_ ?_
 ·exact ⟨_,_,Wk.aH ao,a1,c1,0,false,[],rfl,rfl,rfl,rfl,rfl,rfl⟩
 ·rintro k _ _ ⟨a1,c1,m,dn,S,rfl,rfl,_⟩;exact dr
 ·rintro k _ _ au ⟨a1,c1,m,dn,S,rfl,rfl,AH,hS,M8,hc⟩;obtain ⟨x,hx⟩:∃ x,l[k]?=some x:=⟨l[k],by simp [au]⟩
  have hr:(be l)[k]?=some [.v (ii x)]:=by unfold be;rw [bp,hx];rfl
  have eh:k < (be l).length:=by omega
  have hm:m<=8388609:=by
   have:=(KH l n k).1;rw [<-AH,hS,eK];omega
  have kU:=HP (n:=n) hx
  cases I:(x==n) with
  | true =>
   refine zdO ?_;exact la (n:=1) rfl cB rfl (c6 rfl) rfl rfl (.inl ⟨I2 hx I,rfl,rfl⟩)
  | false =>
   have kC:=A1 hx hc I
   cases dn with
   | true =>
    have e:mg l n (k+1)=((mg l n k).1++[x],true):=by rw [kU];unfold rP;rw [<-M8];rfl
    have ug:be (mg l n (k+1)).1=S++[[.v (ii x)]]:=by rw [e,hS];simp [be]
    clear hS;refine D ?_;refine zai ?_;intro a2 c2;refine zaq ?_;exact ⟨rfl,rfl,_,_,Wk.aH ao,a2,c2,_,true,_,rfl,rfl,by simp [AH],ug.symm,by rw [e],kC⟩
   | false =>
    cases h3:decide (n < x) with
    | true =>
     have e:mg l n (k+1)=((mg l n k).1++[n]++[x],true):=by rw [kU];unfold rP;rw [<-M8,h3];rfl
     have ug:be (mg l n (k+1)).1=(S++[[.v (ii n)]])++[[.v (ii x)]]:=by rw [e,hS];simp [be]
     have hSl:(S++[[GV.v (ii n)]]).length=m+1:=by rw [aL,AH];rfl
     clear hS;refine D ?_;refine zai ?_;intro a2 c2;refine zaq ?_;refine zai ?_;intro a3 c3;refine zaq ?_;exact ⟨rfl,rfl,_,_,Wk.aH ao,a3,c3,_,true,_,rfl,rfl,by simp [AH],ug.symm,by rw [e],kC⟩
    | false =>
     have e:mg l n (k+1)=((mg l n k).1++[x],false):=by rw [kU];unfold rP;rw [<-M8,h3];rfl
     have ug:be (mg l n (k+1)).1=S++[[.v (ii x)]]:=by rw [e,hS];simp [be]
     clear hS;refine D ?_;refine zai ?_;intro a2 c2;refine zaq ?_;exact ⟨rfl,rfl,_,_,Wk.aH ao,a2,c2,_,false,_,rfl,rfl,by simp [AH],ug.symm,by rw [e],kC⟩
 ·rintro _ _ ⟨a1,c1,m,dn,S,rfl,rfl,AH,hS,M8,hc⟩;rw [c7] at hc;have sA:=VR l n hc
  have hm:m<=8388609:=by
   have:=(KH l n l.length).1;rw [<-AH,hS,eK];omega
  refine bc ?_
  cases dn with
  | true =>
   rw [ah M8.symm] at sA
   have e:m=(lj l n).length:=by rw [<-AH,hS,eK,sA]
   subst e;rw [sA] at hS;subst hS;refine zdO ?_;exact la (n:=2) rfl cB rfl (c6 rfl) rfl rfl (.inr ⟨hc,a1,c1,rfl,rfl⟩)
  | false =>
   rw [ab (by rw [<-M8];decide)] at sA
   have ug:be (lj l n)=S++[[.v (ii n)]]:=by rw [<-sA,hS];simp [be]
   have e:(lj l n).length=m+1:=by rw [<-eK,ug,aL,AH];rfl
   rw [ug,e];clear hS;subst AH;refine D ?_;refine zai ?_;intro a2 c2;refine zaq ?_;refine gL ?_;exact la (n:=2) rfl cB rfl (c6 rfl) rfl rfl (.inr ⟨hc,a2,c2,rfl,rfl⟩)
open Go.Xp (Nd aQ aB eI)
def ZK (l r:List Int) (a:Option Addr) (c:Nat) (g:GV) (Δ:List Ob):Prop :=
 (r=l/\g=.v (.slice a l.length c)/\Δ=[.vech 3 1 (be l) (.slice a l.length c)]) \/
 (∃ a' c',g=.v (.slice a' r.length c')/\Δ=[.vech 3 1 (be l) (.slice a l.length c),.vech 3 1 (be r) (.slice a' r.length c')])
theorem SG (l:List Int) (n:Int) (a:Option Addr) (c:Nat) (hl:l.length<=8388608) :
  GC prog 177 [.v (.slice a l.length c),.v (ii n)] [.vech 3 1 (be l) (.slice a l.length c)] (ZK l (lj l n) a c):=by
 refine (Vt l n a c hl).mono fun g Δ h=>?_
 rcases h with ⟨I,G,h3⟩ | ⟨I,a',c',G,h3⟩
 ·exact .inl ⟨Y7 I,G,h3⟩
 ·exact .inr ⟨a',c',G,h3⟩
theorem Pv (p:Src) (jZ:p.fns.length<=1099511627776):∀ (N:Nat) (t:T),aQ t<=N->∀ (l:List Int) (a:Option Addr) (c:Nat),l.length+aQ t<=8388608 ->
  GC prog 113 [.v (.slice a l.length c),.agg (aq p),.agg (cT t)] [.vech 3 1 (be l) (.slice a l.length c)] (ZK l (o9 l (rV p t)) a c):=by
 intro N
 induction N with
 | zero=>intro t h;exact zcF
 | succ N ih =>
 intro t hN l a c gW
 cases t with
 | mk n ks =>
 rw [Go.Xp.aQ] at hN gW;have nS:=eI ks;have eH:(ba ks).length=ks.length:=bh ks;have hF:=FZ p n.s jZ;have e0:du (fun x:Go.Sp.Fn=>x.name==n.s) p.fns=rv p n.s:=rfl;rw [e0] at hF;have hP:=SG l (rv p n.s) a c X
 have kC:xC p n=if n.kind=4/\0<=rv p n.s then [rv p n.s] else []:=rfl
 rw [rV];generalize rv p n.s=z at *;refine ai func113 ntmps113 ?_;refine V [] hF ?_
 refine GL.Xr (fun fr Γ=>∃ h L,fr=[.v h,U,U,U,.loc 1 0,.loc 2 0,U,U,U,U,U,U,U,U,U,U,U,U,U,U,U,U,U,U,U,U,U,U,U,U,U,U,U,U,U,U,U,U,U]/\L=o9 l (xC p n) /\
  ((L=l/\h=.slice a l.length c/\Γ=[.vech 3 1 (be l) (.slice a l.length c),.box 28 (aq p),.box 86 (cT (.mk n ks))]) \/
   (∃ a' c',h=.slice a' L.length c'/\Γ=[.vech 3 1 (be l) (.slice a l.length c),.box 28 (aq p),.box 86 (cT (.mk n ks)),.vech 3 1 (be L) (.slice a' L.length c')]))) ?_ ?_
 ·cases q4:(n.kind==4) with
  | false =>
   rw [ab (fun h=>by rw [h.1] at q4;cases q4)] at kC;exact zdZ
  | true =>
   cases q5:decide ((0:Int)<=z) with
   | false =>
    rw [ab (fun h=>by have:=of_decide_eq_false q5;exact this h.2)] at kC;exact zdZ
   | true =>
    rw [ah ⟨by simpa using q4,by simpa using q5⟩] at kC;refine D ?_;refine bA [0] hP ?_;rintro _ _ (⟨I,rfl,rfl⟩ | ⟨a',c',rfl,rfl⟩)
    ·refine zas ?_;exact ⟨_,_,Wk.aH ao,_,l,rfl,by rw [kC];exact I.symm,.inl ⟨rfl,rfl,rfl⟩⟩
    ·refine zas ?_;exact ⟨_,_,Wk.aH ao,_,lj l z,rfl,by rw [kC];rfl,.inr ⟨a',c',rfl,rfl⟩⟩
 ·rintro _ _ ⟨h,L0,rfl,hL0,M1⟩;have ad9:=FJ p n
  rcases M1 with ⟨e1,rfl,rfl⟩ | ⟨a0,c0,rfl,rfl⟩
  all_goals
   refine D ?_
   refine GW.range (ba ks).length (fun k fr Γ=>∃ h L,fr=[.v h,U,U,U,.loc 1 0,.loc 2 0,U,U,U,U,U,U,U,U,U,U,U,U,U,U,U,U,U,U,U,U,U,.sl 6 (ba ks),.v (ii ((ba ks).length:Int)),.v (ii (k:Nat)),U,U,U,U,U,U,U,U,U]/\L=o9 l (xC p n++kH p (ks.take k)) /\
    ((L=l/\h=.slice a l.length c/\Γ=[.vech 3 1 (be l) (.slice a l.length c),.box 28 (aq p),.box 86 (cT (.mk n ks))]) \/
     (∃ a' c',h=.slice a' L.length c'/\Γ=[.vech 3 1 (be l) (.slice a l.length c),.box 28 (aq p),.box 86 (cT (.mk n ks)),.vech 3 1 (be L) (.slice a' L.length c')]))) ?_ X ?_ ?_ ?_
   ·exact ⟨_,_,Wk.aH ao,_,L0,rfl,by rw [List.take_zero,kH,dN];exact hL0,by first | exact .inl ⟨e1,rfl,rfl⟩ | exact .inr ⟨_,_,rfl,rfl⟩⟩
   ·rintro k _ _ ⟨h,L,rfl,_,M1⟩;exact dr
   ·rintro k _ _ au ⟨h,L,rfl,hL,M1⟩;rw [eH] at au;obtain ⟨u,hu⟩:∃ u,ks[k]?=some u:=⟨ks[k],by simp [au]⟩;have hr:=dB hu;have dj:=ku hu
    have hLl:L.length<=l.length+1+aB (ks.take k):=by
     have:=PT l (xC p n++kH p (ks.take k));have:=IX p (ks.take k);rw [aL] at *;rw [hL];omega
    have kU:=QO p hu l n;rw [<-hL] at kU;rw [kU]
    rcases M1 with ⟨e2,rfl,rfl⟩ | ⟨a',c',rfl,rfl⟩
    ·subst e2;have hi:=ih u X L a c X;generalize o9 L (rV p u)=L2 at *;refine D ?_;refine bA [0] hi ?_;rintro _ _ (⟨I,rfl,rfl⟩ | ⟨a2,c2,rfl,rfl⟩)
     ·refine zas ?_;exact ⟨rfl,rfl,_,_,(Wk.cut (n:=3) (c6 rfl) rfl).trans (Wk.aH ao),_,L2,rfl,rfl,.inl ⟨I,rfl,rfl⟩⟩
     ·refine zas ?_;exact ⟨rfl,rfl,_,_,(Wk.keep (n:=3) (j:=4) (c6 rfl) aD rfl rfl rfl).trans (Wk.aH ao),_,L2,rfl,rfl,.inr ⟨a2,c2,rfl,rfl⟩⟩
    ·have hi:=ih u X L a' c' X;generalize o9 L (rV p u)=L2 at *;refine D ?_;refine bA [3] hi ?_;rintro _ _ (⟨rfl,rfl,rfl⟩ | ⟨a2,c2,rfl,rfl⟩)
     ·refine zas ?_;exact ⟨rfl,rfl,_,_,(Wk.cut (n:=4) (c6 rfl) rfl).trans (Wk.aH ao),_,_,rfl,rfl,.inr ⟨a',c',rfl,rfl⟩⟩
     ·refine zas ?_;exact ⟨rfl,rfl,_,_,(Wk.keep (n:=3) (j:=5) (c6 rfl) aD rfl rfl rfl).trans (Wk.aH ao),_,L2,rfl,rfl,.inr ⟨a2,c2,rfl,rfl⟩⟩
   ·rintro _ _ ⟨h,L,rfl,hL,M1⟩;rw [eH,c7] at hL;rw [<-hL];refine bc ?_
    rcases M1 with ⟨e2,rfl,rfl⟩ | ⟨a',c',rfl,rfl⟩
    ·refine zdO ?_;exact la (n:=1) rfl cB rfl (c6 rfl) rfl rfl (.inl ⟨e2,rfl,rfl⟩)
    ·refine GW.wk (Wk.keep (n:=1) (j:=3) (aI _) aD rfl rfl rfl) ?_;refine GW.Ef (cV:=[.v (.slice a' L.length c'),U,U,U,U,U,U,U,U,U,U,U,U,U,U,U,U,U,U,U,U,U,U,U,U,U,U,U,U,U,U,U,U,U,U,U,U,U,U]) (aZ:=[.vech 3 1 (be l) (.slice a l.length c),.vech 3 1 (be L) (.slice a' L.length c')]) ao rfl ?_;refine zdO ?_;exact la (n:=2) rfl cB rfl (c6 rfl) rfl rfl (.inr ⟨a',c',rfl,rfl⟩)
theorem zt (p:Src) (hw:b7 p<=1048576) {l:List T} {i:Nat} {f:Go.Sp.Fn} {t:T} (hg:de p=true) (h:kM p l i f t) :
  GC prog 56 [.agg (aq p),.v (ii (i:Nat))] [] fun g Δ=>∃ a c,g=.v (.slice a (bS p t).length c)/\Δ=[.vech 3 1 (be (bS p t)) (.slice a (bS p t).length c)]:=by
 obtain ⟨⟨a1,a2⟩,⟨b1,b2⟩,⟨c1,c2⟩,⟨d1,d2⟩⟩:=dU p;have hG:=yI p hw;rw [hg] at hG
 have ki:(p.fns.map aw).length=p.fns.length:=by simp
 have hi:=(bB h.gf).1
 have hr:(p.fns.map aw)[i]?=some (aw f):=by rw [bp,h.gf];rfl
 have q2:decide ((i:Int) < 0)=false:=decide_eq_false X;have q3:decide (((p.fns.map aw).length:Int)<=(i:Int))=false:=decide_eq_false zg3;have hS:=K6 p (fun n hn=>by have:=(d2 n hn).2;omega) f t h.body h.st
 have hC:=fun a c=>Pv p X _ t (aI _) [] a c (by have:=h.sz;show 0+_<=_;omega)
 rw [PU] at hC;unfold bS;unfold aw at hr;generalize r9 (rV p t)=rr at *;refine ai func56 ntmps56 ?_;refine V [] hG ?_;refine aM (ax 1 8 (.f 0 (.a 9 (.a 10 (.q 11 .nil))) 9 (.a 0 (.a 10 (.q 11 .nil))))) ?_;refine aj ?_;refine GO.fork ?_ ?_
 ·refine OA rfl rfl (GL.S3 rfl rfl rfl rfl ?_);refine GL.tK (t:=19) rfl rfl rfl rfl ?_;intro a1 c1;refine zdi ?_;refine aC [] hS ?_;refine OA rfl rfl ?_;refine bA [1] (hC a1 c1) ?_;rintro _ _ (⟨I,rfl,rfl⟩ | ⟨a',c',rfl,rfl⟩)
  ·refine ⟨by simp,?_⟩;refine cy ?_;subst I;refine bm ?_;refine gL ?_;refine u0 1 rfl cB rfl ?_ ?_
   ·intro x hx;rw [xq hx];rfl
   ·exact zcZ
  ·refine ⟨by simp,?_⟩;refine zaL ?_;refine gL ?_;refine u0 2 rfl cB rfl ?_ ?_
   ·intro x hx;rw [xq hx];rfl
   ·exact zcZ
 ·refine aC [] hS ?_;refine OA rfl rfl (GL.S3 rfl rfl rfl rfl ?_);refine GL.tK (t:=19) rfl rfl rfl rfl ?_;intro a1 c1;refine zdi ?_;refine OA rfl rfl ?_;refine bA [1] (hC a1 c1) ?_;rintro _ _ (⟨I,rfl,rfl⟩ | ⟨a',c',rfl,rfl⟩)
  ·refine ⟨by simp,?_⟩;refine cy ?_;subst I;refine bm ?_;refine gL ?_;refine u0 1 rfl cB rfl ?_ ?_
   ·intro x hx;rw [xq hx];rfl
   ·exact zcZ
  ·refine ⟨by simp,?_⟩;refine zaL ?_;refine gL ?_;refine u0 2 rfl cB rfl ?_ ?_
   ·intro x hx;rw [xq hx];rfl
   ·exact zcZ
end Go.Xg
namespace Go.Xg
open Go.RowKit Go.Xw Go.Proofs Go.Im
open Go.Xp (T)
open Go.Sp (Src)
attribute [local irreducible] GW GL GO YG GC GA aU aW
theorem sd (p:Src) (t:T):Trail p (bS p t):=⟨xg (rp p t),qp p t⟩
open Tryz
theorem ME (p:Src) (hw:b7 p<=1048576) (gy:de p=true) {l:List T} {i:Nat} {f:Go.Sp.Fn} {t:T} (h:kM p l i f t) (z2:Int) :
  GF prog 58 [.agg (aq p),.v (ii (i:Nat)),.v (ii z2)] [] (.v (.bool (dX p (i:Int) z2))) []:=by
 obtain ⟨⟨a1,a2⟩,⟨b1,b2⟩,⟨c1,c2⟩,⟨d1,d2⟩⟩:=dU p;have hi:=(bB h.gf).1;have hC:=yB p hw h;have hT:=G0 p hw h.good (bS p t) (sd p t);have hWl:=(B7 (p:=p) (l:=l) (p.fns.length+1) 0 _ (sd p t)).len
 have hH:GF prog 52 [ints (iT (qw p l (bS p t))),.v (ii z2)] [] (.v (.bool (dX p (i:Int) z2))) []:=by
  have:=rS (iT (qw p l (bS p t))) z2 (by rw [pQ];unfold qw;omega);exact zfU
 generalize iT (qw p l (bS p t))=L at *;generalize bS p t=ks at *;generalize dX p (i:Int) z2=b at *;refine ai func58 ntmps58 ?_;exact zb7
theorem B1 (p:Src) (hw:b7 p<=1048576) (hn:ma p) (a b:Int) :
  GF prog 21 [.agg (aq p),.v (ii a),.v (ii b)] [] (.v (.bool (dX p a b))) []:=by
 obtain ⟨⟨a1,a2⟩,⟨b1,b2⟩,⟨c1,c2⟩,⟨d1,d2⟩⟩:=dU p
 have mT:(p.fns.map aw).length=p.fns.length:=by simp
 have hG:=yJ p hw hn
 have hW:=fun x=>Lw x 0 (((p.fns.map aw).length:Int) - 1)
 have hA:=hW a;have hB:=hW b
 cases q1:(decide ((0:Int)<=a)&&decide (a<=((p.fns.map aw).length:Int) - 1)) with
 | false =>
  rw [q1] at hA
  have hh:eG p a=false:=by
   unfold eG;rw [mT] at q1
   cases hc:((de p&&decide ((0:Int)<=a))&&decide (a < (p.fns.length:Int))) with
   | false=>rfl
   | true =>
    simp only [aK,decide_eq_true_eq] at hc;rw [decide_eq_true hc.1.2,decide_eq_true (show a<=(p.fns.length:Int) - 1 by omega)] at q1;cases q1
  rw [GZ hh];refine ai func21 ntmps21 ?_;refine V [] hA ?_;exact al
 | true =>
  rw [q1] at hA;rw [mT] at q1;simp only [aK,decide_eq_true_eq] at q1
  cases q2:(decide ((0:Int)<=b)&&decide (b<=((p.fns.map aw).length:Int) - 1)) with
  | false =>
   rw [q2] at hB;rw [mT] at q2;rw [ON (by rintro ⟨I,G⟩;rw [decide_eq_true I,decide_eq_true (show b<=(p.fns.length:Int) - 1 by omega)] at q2;cases q2)];refine ai func21 ntmps21 ?_;refine V [] hA ?_;refine V [] hB ?_;exact al
  | true =>
   rw [q2] at hB
   cases q3:de p with
   | false =>
    rw [q3] at hG;rw [GZ (by unfold eG;rw [q3];rfl)];refine ai func21 ntmps21 ?_;refine V [] hA ?_;refine V [] hB ?_;refine V [] hG ?_;exact al
   | true =>
    rw [q3] at hG
    have hh:eG p a=true:=by unfold eG;rw [q3,decide_eq_true q1.1,decide_eq_true (show a < (p.fns.length:Int) by omega)];rfl
    obtain ⟨i,l,f,t,rfl,h⟩:=mK hh;have hC:=ME p hw q3 h b;generalize dX p (i:Int) b=z at *;refine ai func21 ntmps21 ?_;refine V [] hA ?_;refine V [] hB ?_;refine V [] hG ?_;exact zfx
open Go.Sp
open GV (U)
theorem DA (xs:List Int) (z:Int) (hl:xs.length<=1099511627776):GF prog 19 [ints xs,.v (ii z)] [] (.v (.bool (xs.contains z))) []:=by
 have vI:∀ {k:Nat} {x:Int},xs[k]?=some x->(xs.take (k+1)).contains z=((xs.take k).contains z || (x==z)):=fun {k x} h=>by
  rw [dk,h,List.contains_append];show (_ || [x].contains z)=_
  congr 1
  exact zb6
 refine ai func19 ntmps19 ?_;refine GW.range (xs.map fun i=>[GV.v (ii i)]).length (fun k fr Γ=>fr=[ints xs,.v (ii z),U,U,U,U,U,ints xs,.v (ii ((xs.map fun i=>[GV.v (ii i)]).length:Int)),.v (ii (k:Nat)),U,U,U,U,U,U,U]/\Γ=[]/\(xs.take k).contains z=false) ?_ zge ?_ ?_ ?_
 ·exact lN
 ·exact jn
 ·rintro k _ _ au ⟨rfl,rfl,hc⟩
  have au:k < xs.length:=by simpa using au
  have hx:xs[k]?=some xs[k]:=by simp [au]
  have hr:(xs.map fun i=>[GV.v (ii i)])[k]?=some [.v (ii xs[k])]:=by simp [au]
  have jL:=vI hx;refine D ?_;refine GW.cond rfl (fun G=>?_) (fun G=>?_)
  ·refine zdh ?_
   have h3:xs[k]=z:=by simpa using G
   have:z∈xs:=by rw [<-h3];exact List.getElem_mem _
   exact zfD
  ·exact zet
 ·rintro _ _ ⟨rfl,rfl,hc⟩;refine zdh ?_
  have hc:xs.contains z=false:=by rw [bM,c7] at hc;exact hc
  refine ⟨?_,rfl⟩;show GV.v (.bool false)=_;rw [hc]
end Go.Xg
