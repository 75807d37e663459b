/- Part 3 of proofs that are told in their last texts. -/
import Derived.Test.YtaopilmekfecpaaGreatDoorZ2
set_option linter.unusedVariables false
set_option linter.unusedSimpArgs false
namespace Go.Im
open Go.Xp Go.Sp
structure PSok (st:PS):Prop where
 globals:namesOk st.globals=true
 arrays:st.arrays.all arOk=true
 fns:∀ x∈st.fns,nameOk x.1=true∧namesOk x.2=true
 trees:∀ t∈st.trees,BF t
 len:st.fns.length=st.trees.length
theorem namesOk_app {a b:List Str} (h:namesOk a=true) (k:namesOk b=true):namesOk (a++b)=true:=by
 unfold namesOk at *
 rw [List.all_append,h,k];rfl
theorem namesOk_one {s:Str} (h:nameOk s=true):namesOk [s]=true:=by
 unfold namesOk
 rw [List.all_cons,h];rfl
theorem Sf.len {a b:List Tok} {n:Nat} (h:Sf a b n):b.length+n≤a.length:=by
 obtain ⟨p,rfl,h⟩:=h
 rw [List.length_append];omega
theorem iPm_any:∀ (f:Nat) (acc:List Str) (p:RS) (ts:List Tok),On p ts→TOs ts→ts.length+1 < f→namesOk acc=true →
  ∃ l q,iPm f acc p=some (l,q)∧((∃ r n,Aft p q (.ok r)∧namesOk l=true∧Sf ts r n)∨q.code≠0)
 | 0,acc,p,ts,_,_,hf,_=>by omega
 | f+1,acc,p,ts,hp,ho,hf,hn=>by
  rw [iPm]
  by_cases hc:p.code=0∧is p 0 [41]=false
  ·rw [if_pos hc]
   have hp':(∃ r,Aft p (if acc.length=0 then p else want p [44]) (.ok r)∧Sf ts r 0)∨(if acc.length=0 then p else want p [44]).code≠0:=by
    by_cases ha:acc.length=0
    ·rw [if_pos ha];exact .inl ⟨ts,On.self hp,.nil _⟩
    ·rw [if_neg ha]
     rcases want_or hp (s:=[44]) (by decide) with ⟨r,h1,h2⟩ | ⟨x,h1,h2⟩
     ·exact .inl ⟨r,h2,(Sf.must (by decide) h1).le (Nat.zero_le _)⟩
     ·exact .inr (Aft.err h2)
   generalize (if acc.length=0 then p else want p [44])=p' at *
   rcases hp' with ⟨r,h1,h2⟩ | h1
   ·rcases nameS_or h1.1 with ⟨r2,h3,h4⟩ | ⟨x,h3,h4⟩
    ·obtain ⟨k1,k2⟩:=Sf.name h3 (h2.ok ho)
     have hlen:=(h2.trans k1).len
     obtain ⟨l,q,k3,k4⟩:=iPm_any f (acc++[(tok p' 0).s]) (nameS p') r2 h4.1 ((h2.trans k1).ok ho) (by omega) (namesOk_app hn (namesOk_one k2))
     refine ⟨l,q,k3,?_⟩
     rcases k4 with ⟨r3,n,k5,k6,k7⟩ | k5
     ·exact .inl ⟨r3,_,(h1.tr h4).tr k5,k6,(h2.trans k1).trans k7⟩
     ·exact .inr k5
    ·exact ⟨_,_,iPm_err (Aft.err h4) (by omega),.inr (Aft.err h4)⟩
   ·rw [nameS_err h1]
    exact ⟨_,_,iPm_err h1 (by omega),.inr h1⟩
  ·rw [if_neg hc]
   rcases want_or hp (s:=[41]) (by decide) with ⟨r,h1,h2⟩ | ⟨x,h1,h2⟩
   ·exact ⟨acc,_,rfl,.inl ⟨r,1,h2,hn,Sf.must (by decide) h1⟩⟩
   ·exact ⟨acc,_,rfl,.inr (Aft.err h2)⟩
theorem iW_any {f:Nat} {p:RS} {st:PS} {u:Tok} {r0:List Tok} (hp:On p (u::r0)) (ho:TOs (u::r0)) (hs:Srt p.l) (hf:fW p≤f) (hst:PSok st) :
  ∃ q st',iW f p st=some (q,st')∧((∃ r n,Aft p q (.ok r)∧PSok st'∧Sf (u::r0) r (n+1)∧szL st'.trees≤n+1+szL st.trees)∨q.code≠0):=by
 have p1:=nx hp
 have hs1:=Sf.one u r0
 unfold iW
 by_cases h1:is p 0 kwInt=true
 ·rw [if_pos h1]
  rcases nameS_or p1 with ⟨r1,a1,a2⟩ | ⟨x,a1,a2⟩
  ·obtain ⟨b1,b2⟩:=Sf.name a1 (hs1.ok ho)
   have b3:=hs1.trans b1
   have a3:Aft p (nameS p.next) (.ok r1):=(On.next hp).tr a2
   by_cases h2:(nameS p.next).code=0∧is (nameS p.next) 0 [91]=true
   ·rw [if_pos h2]
    have h3:sign r1 0=[91]:=by
     have:=On.is a2.1 0 (s:=[91]) (by decide)
     rw [h2.2] at this;simpa using this.symm
    obtain ⟨v,h4,_⟩:=sign_suf (by decide) h3
    have b4:=b3.trans (Sf.sign (by decide) h3)
    have p2:=a2.1
    rw [h4] at p2
    have a4:Aft p (nameS p.next).next (.ok r1.tail):=a3.tr (On.next p2)
    have p3:=nx p2
    by_cases h5:(tok (nameS p.next).next 0).kind=1
    ·rw [if_pos h5]
     cases hr:r1.tail with
     | nil =>
      rw [hr] at p3
      have:=On.tok p3 0
      rw [this] at h5
      cases h5
     | cons w r3 =>
      rw [hr] at p3 a4 b4
      have p4:=nx p3
      have b5:=b4.trans (Sf.one w r3)
      have a5:=a4.tr (On.next p3)
      rw [tok_c p3] at h5
      have hw:=(b4.ok ho w List.mem_cons_self).num h5
      rcases want_or p4 (s:=[93]) (by decide) with ⟨r4,c1,c2⟩ | ⟨x,c1,c2⟩
      ·rcases want_or c2.1 (s:=[59]) (by decide) with ⟨r5,d1,d2⟩ | ⟨x,d1,d2⟩
       ·refine ⟨_,_,rfl,.inl ⟨r5,0,(a5.tr c2).tr d2,⟨hst.globals,?_,hst.fns,hst.trees,hst.len⟩,((b5.trans (Sf.must (by decide) c1)).trans (Sf.must (by decide) d1)).le (by omega),by simp only;omega⟩⟩
        simp only
        rw [List.all_append,hst.arrays,List.all_cons,List.all_nil,Bool.and_true,Bool.true_and]
        unfold arOk
        rw [tok_c p3,b2]
        simp only [Bool.and_eq_true,Bool.not_eq_true',decide_eq_false_iff_not]
        exact ⟨⟨trivial,by omega⟩,by omega⟩
       ·exact ⟨_,_,rfl,.inr (Aft.err d2)⟩
      ·refine ⟨_,_,rfl,.inr ?_⟩
       rw [want_err (Aft.err c2)];exact Aft.err c2
    ·rw [if_neg h5]
     exact ⟨_,_,rfl,.inr (Aft.err (On.wrong p3))⟩
   ·rw [if_neg h2]
    rcases want_or a2.1 (s:=[59]) (by decide) with ⟨r4,c1,c2⟩ | ⟨x,c1,c2⟩
    ·exact ⟨_,_,rfl,.inl ⟨r4,0,a3.tr c2,⟨namesOk_app hst.globals (namesOk_one b2),hst.arrays,hst.fns,hst.trees,hst.len⟩,(b3.trans (Sf.must (by decide) c1)).le (by omega),by simp only;omega⟩⟩
    ·exact ⟨_,_,rfl,.inr (Aft.err c2)⟩
  ·rw [if_neg (fun h=>Aft.err a2 h.1),want_err (Aft.err a2)]
   exact ⟨_,_,rfl,.inr (Aft.err a2)⟩
 ·rw [if_neg h1]
  by_cases h2:is p 0 kwFunc=true
  ·rw [if_pos h2]
   rcases nameS_or p1 with ⟨r1,a1,a2⟩ | ⟨x,a1,a2⟩
   ·obtain ⟨b1,b2⟩:=Sf.name a1 (hs1.ok ho)
    have b3:=hs1.trans b1
    have a3:Aft p (nameS p.next) (.ok r1):=(On.next hp).tr a2
    rcases want_or a2.1 (s:=[40]) (by decide) with ⟨r2,c1,c2⟩ | ⟨x,c1,c2⟩
    ·have b4:=b3.trans (Sf.must (by decide) c1)
     have a4:=a3.tr c2
     have hl:=On.len c2.1
     have hl2:(want (nameS p.next) [40]).l=p.l:=a4.2.1
     obtain ⟨l,q,k1,k2⟩:=iPm_any f [] _ r2 c2.1 (b4.ok ho) (by rw [hl2] at hl;unfold fW at hf;omega) rfl
     rw [k1]
     simp only
     rcases k2 with ⟨r3,n,k3,k4,k5⟩ | k3
     ·have a5:=a4.tr k3
      have hql:q.l=p.l:=a5.2.1
      rw [if_pos k3.1.code]
      obtain ⟨t,q',k6,k7⟩:=iBlk (f:=f) k3.1 (by rw [hql];exact hs) (by unfold fW at hf ⊢;rw [hql];exact hf)
      rw [k6]
      simp only
      have b5:=b4.trans k5
      cases hb:block q.e 1 r3 with
      | error x=>rw [hb] at k7;exact ⟨_,_,rfl,.inr (Aft.err k7)⟩
      | ok y =>
       obtain ⟨t',r4⟩:=y
       rw [hb] at k7
       obtain ⟨rfl,k7⟩:=k7
       obtain ⟨k8,k9⟩:=block_form (b5.ok ho) hb
       refine ⟨_,_,rfl,.inl ⟨r4,n+szT t+2,a5.tr k7,⟨hst.globals,hst.arrays,?_,?_,?_⟩,(b5.trans k9).le (by omega),?_⟩⟩
       ·intro x hx
        rcases List.mem_append.1 hx with hx | hx
        ·exact hst.fns x hx
        ·rw [List.mem_singleton] at hx;subst hx;exact ⟨b2,k4⟩
       ·intro x hx
        rcases List.mem_append.1 hx with hx | hx
        ·exact hst.trees x hx
        ·rw [List.mem_singleton] at hx;subst hx;exact k8
       ·simp only [List.length_append,List.length_cons,List.length_nil];have:=hst.len;omega
       ·simp only [szL_app,szL];omega
     ·rw [if_neg k3]
      exact ⟨_,_,rfl,.inr k3⟩
    ·rw [iPm_err (Aft.err c2) (by unfold fW at hf;omega)]
     simp only
     rw [if_neg (Aft.err c2)]
     exact ⟨_,_,rfl,.inr (Aft.err c2)⟩
   ·rw [want_err (Aft.err a2),iPm_err (Aft.err a2) (by unfold fW at hf;omega)]
    simp only
    rw [if_neg (Aft.err a2)]
    exact ⟨_,_,rfl,.inr (Aft.err a2)⟩
  ·rw [if_neg h2]
   exact ⟨_,_,rfl,.inr (Aft.err (On.wrong hp))⟩
theorem iPs_any {f:Nat}:∀ (G:Nat) (p:RS) (st:PS) (ts:List Tok),On p ts→TOs ts→Srt p.l→fW p≤f→PSok st→ts.length < G →
  ∃ q st',iPs G f p st=some (q,st')∧(q.code=0→PSok st'∧szL st'.trees≤ts.length+szL st.trees)
 | 0,p,st,ts,_,_,_,_,_,hG=>by omega
 | G+1,p,st,ts,hp,ho,hs,hf,hst,hG=>by
  cases ts with
  | nil =>
   rw [iPs,if_neg (fun hc=>lt_n hp hc.2)]
   exact ⟨p,st,rfl,fun _=>⟨hst,by simp⟩⟩
  | cons u r0 =>
   obtain ⟨q,st',h1,h2⟩:=iW_any hp ho hs hf hst
   rw [iPs_step hp h1]
   rw [List.length_cons] at hG
   rcases h2 with ⟨r,n,h3,h4,h5,h6⟩ | h3
   ·have hl:=h5.len
    rw [List.length_cons] at hl
    have hql:q.l=p.l:=h3.2.1
    obtain ⟨q',st2,k1,k2⟩:=iPs_any G q st' r h3.1 (h5.ok ho) (by rw [hql];exact hs) (by unfold fW at hf ⊢;rw [hql];exact hf) h4 (by omega)
    exact ⟨q',st2,k1,fun hc=>by obtain ⟨k3,k4⟩:=k2 hc;exact ⟨k3,by rw [List.length_cons];omega⟩⟩
   ·exact ⟨q,st',iPs_err h3 (by omega),fun hc=>absurd hc h3⟩
def fnsOf (st:PS):List Fn:=st.fns.mapIdx fun i x=>⟨x.1,x.2,((szL (st.trees.take i):Nat):Int)⟩
def same (p:Src) (st:PS):Bool:=eqL (fun x y=>x==y) p.globals st.globals&&(eqL eqA p.arrays st.arrays&&(eqL sameF p.fns (fnsOf st)&&eqL sameN p.nodes (flL 0 st.trees)))
structure Reads (x:Str) (ts:List Tok) (c z:Int) (q:RS) (st:PS):Prop where
 lex:lexI x (x.length+1) 0 []=some (ts,c,z)
 len:ts.length≤x.length
 read:iPs (ts.length+1) (40 * ts.length+100) ⟨ts,0,(x.length:Int),0,0⟩ .empty=some (q,st)
 ok:q.code=0→PSok st∧szL st.trees≤ts.length
theorem reads (x:Str):∃ ts c z q st,Reads x ts c z q st:=by
 obtain ⟨ts,c,z,h1,h2,h3,h4⟩:=lexI_some x (x.length+1) 0 [] (Nat.zero_le _) (by omega) (fun t h=>by simp at h) .nil (fun t h=>by simp at h) (Nat.le_refl _)
 have hon:On ⟨ts,0,(x.length:Int),0,0⟩ ts:=⟨rfl,Nat.zero_le _,rfl,fun t ht=>(h2 t ht).kinds⟩
 obtain ⟨q,st,h5,h6⟩:=iPs_any (f:=40 * ts.length+100) (ts.length+1) _ .empty ts hon h2 h3 (Nat.le_refl _) ⟨rfl,rfl,fun x h=>(by cases h),fun x h=>(by cases h),rfl⟩ (by omega)
 exact ⟨ts,c,z,q,st,h1,h4,h5,fun h=>by obtain ⟨a,b⟩:=h6 h;exact ⟨a,by simpa [PS.empty,szL] using b⟩⟩
structure Forms (l:List T) (ls:List (List S)):Prop where
 len:ls.length=l.length
 at_:∀ (i:Nat) t b,l[i]?=some t→ls[i]?=some b→S.oks b=true∧er t=blkTree b
theorem forms_of:∀ (l:List T),(∀ t∈l,BF t)→∃ ls,Forms l ls
 | [],_=>⟨[],rfl,fun i t b h=>by simp at h⟩
 | t::l,h=>by
  obtain ⟨b,h1,h2⟩:=h t List.mem_cons_self
  obtain ⟨ls,h3⟩:=forms_of l fun u hu=>h u (List.mem_cons_of_mem _ hu)
  refine ⟨b::ls,by simp [h3.len],fun i t' b' k1 k2=>?_⟩
  cases i with
  | zero=>cases k1;cases k2;exact ⟨h1,h2⟩
  | succ i=>exact h3.at_ i t' b' (by simpa using k1) (by simpa using k2)
theorem FSq.mem {Q:Fn→T→Prop}:∀ {fns:List Fn} {a:Nat} {l:List T},FSq Q fns a l→(∀ f∈fns,∃ t∈l,Q f t)∧(∀ t∈l,∃ f∈fns,Q f t)
 | [],_,[],_=>⟨fun f h=>(by cases h),fun f h=>(by cases h)⟩
 | f::r,a,t::l,h=>by
  rw [FSq] at h
  obtain ⟨k1,k2⟩:=FSq.mem h.2.2
  refine ⟨fun g hg=>?_,fun u hu=>?_⟩
  ·rcases List.mem_cons.1 hg with rfl | hg
   ·exact ⟨t,List.mem_cons_self,h.2.1⟩
   ·obtain ⟨u,a,b⟩:=k1 g hg;exact ⟨u,List.mem_cons_of_mem _ a,b⟩
  ·rcases List.mem_cons.1 hu with rfl | hu
   ·exact ⟨f,List.mem_cons_self,h.2.1⟩
   ·obtain ⟨g,a,b⟩:=k2 u hu;exact ⟨g,List.mem_cons_of_mem _ a,b⟩
 | [],_,t::l,h=>by cases h
 | f::r,_,[],h=>by cases h
theorem Stands.forms {p:Src} {l:List T} (h:Stands p l):∃ ls,Forms l ls:=by
 refine forms_of l fun t ht=>?_
 obtain ⟨f,_,h1⟩:=(FSq.mem h.fns).2 t ht
 exact toB h1.all h1.kind
theorem Stands.at_ {p:Src} {l:List T} (h:Stands p l):atTs l:=by
 have:∀ l:List T,(∀ t∈l,allT t=true)→atTs l:=by
  intro l
  induction l with
  | nil=>intro _;trivial
  | cons t l ih=>intro h;rw [atTs];exact ⟨all_at t (h t List.mem_cons_self),ih fun u hu=>h u (List.mem_cons_of_mem _ hu)⟩
 refine this l fun t ht=>?_
 obtain ⟨f,_,h1⟩:=(FSq.mem h.fns).2 t ht
 exact h1.all
theorem Stands.bod {p:Src} {l:List T} (h:Stands p l):bodI p.nodes p.fns 0 []=some (l,p.nodes.length):=by
 rw [bodI_of p.fns 0 [] l h.st h.fns h.at_,h.len];simp
theorem Stands.k {p:Src} {l:List T} (h:Stands p l):l.all kOk=true:=by
 rw [List.all_eq_true]
 intro t ht
 obtain ⟨f,_,h1⟩:=(FSq.mem h.fns).2 t ht
 exact all_k t h1.all
theorem forms_ers {l:List T} {ls:List (List S)} (h:Forms l ls):ers l=ls.map blkTree:=by
 rw [ers_map]
 apply List.ext_getElem?
 intro i
 rw [List.getElem?_map,List.getElem?_map]
 have hl:=h.len
 cases h1:l[i]? with
 | none =>
  rw [List.getElem?_eq_none_iff] at h1
  rw [List.getElem?_eq_none_iff.2 (by omega)];rfl
 | some t =>
  have hi:=(List.getElem?_eq_some_iff.1 h1).1
  have h2:ls[i]?=some (ls[i]'(by omega)):=by simp [hl,hi]
  rw [h2]
  exact congrArg some (h.at_ i t _ h1 h2).2
theorem zip_fst {α β:Type}:∀ (a:List α) (b:List β),a.length=b.length→(a.zip b).map Prod.fst=a
 | [],[],_=>rfl
 | x::a,y::b,h=>by rw [List.zip_cons_cons,List.map_cons,zip_fst a b (by simpa using h)]
 | [],y::b,h=>by simp at h
 | x::a,[],h=>by simp at h
theorem zip_snd {α β:Type}:∀ (a:List α) (b:List β),a.length=b.length→(a.zip b).map Prod.snd=b
 | [],[],_=>rfl
 | x::a,y::b,h=>by rw [List.zip_cons_cons,List.map_cons,zip_snd a b (by simpa using h)]
 | [],y::b,h=>by simp at h
 | x::a,[],h=>by simp at h
theorem szL_take_ers (l:List T) (i:Nat):szL (l.take i)=szL ((ers l).take i):=by
 rw [ers_map,←List.map_take,←ers_map,szL_ers]
theorem same_t {p:Src} {l:List T} {l':List T} {ls:List (List S)} (h:Stands p l) (he:ers l'=ers l):same p ⟨l',p.globals,p.arrays,p.fns.map fun x=>(x.name,x.params)⟩=true:=by
 unfold same
 simp only [Bool.and_eq_true]
 refine ⟨eqL_refl (fun x=>by simp) _,eqL_refl (fun x=>by simp [eqA]) _,?_,?_⟩
 ·have:fnsOf ⟨l',p.globals,p.arrays,p.fns.map fun x=>(x.name,x.params)⟩=p.fns:=by
   unfold fnsOf
   apply List.ext_getElem?
   intro i
   simp only [List.getElem?_mapIdx,List.getElem?_map]
   cases hf:p.fns[i]? with
   | none=>rfl
   | some f =>
    have hlen:=FSq.len h.fns
    have hi:=(List.getElem?_eq_some_iff.1 hf).1
    have ht:l[i]?=some (l[i]'(by omega)):=by simp [←hlen,hi]
    have hb:=(FSq.at_ h.fns i f _ hf ht).1
    rw [Nat.zero_add,szL_take_ers,←he,←szL_take_ers] at hb
    simp only [Option.map_some]
    rw [←hb]
  rw [this]
  refine eqL_refl (fun x=>?_) _
  simp [sameF,eqL_refl]
 ·rw [StL.all h.st h.len]
  exact flL_sim _ _ 0 he.symm
theorem lay_f2 {p:Src} {l:List T} {ls:List (List S)} (h:Stands p l) (hf:Forms l ls):layT tiT inl1 p l=catF f2 (catF a1 (catF g1 [] p.globals) p.arrays) (p.fns.zip ls):=by
 unfold layT
 refine cat_f2 _ _ _ _ hf.len fun i t b h1 h2=>?_
 obtain ⟨h3,h4⟩:=hf.at_ i t b h1 h2
 rw [←blT_er,h4]
 exact blT_txt b h3 0
theorem stand_read {p:Src} {l:List T} {ls:List (List S)} (h:Stands p l) (hf:Forms l ls) {ts:List Tok} {c z:Int} {q:RS} {st:PS} (hr:Reads (layT tiT inl1 p l) ts c z q st) :
  c=0∧((ls.all fun b=>blkFit b 1)=true→q.code=0∧szL st.trees≤800∧same p st=true)∧((ls.all fun b=>blkFit b 1)=false→q.code≠0):=by
 have hx:=lay_f2 h hf
 have hlen:=FSq.len h.fns
 have hll:=hf.len
 have hxs:∀ x∈p.fns.zip ls,xOk x:=by
  intro x hx
  obtain ⟨f,b⟩:=x
  obtain ⟨i,hi⟩:=List.getElem?_of_mem hx
  rw [List.getElem?_zip_eq_some] at hi
  have hi2:=(List.getElem?_eq_some_iff.1 hi.2).1
  have ht:l[i]?=some (l[i]'(by omega)):=by simp [←hll,hi2]
  have h1:=(FSq.at_ h.fns i f _ hi.1 ht).2
  exact ⟨h1.name,h1.params,(hf.at_ i _ b ht hi.2).1⟩
 obtain ⟨us,h1,h2⟩:=prog_read p.globals p.arrays (p.fns.zip ls) h.globals h.arrays hxs
 rw [←hx] at h1
 have h3:=lexI_tz h1 rfl ((layT tiT inl1 p l).length+1) [] (by omega)
 rw [List.nil_append,hr.lex] at h3
 simp only [Option.some.injEq,Prod.mk.injEq] at h3
 obtain ⟨rfl,rfl,rfl⟩:=h3
 have hsrt:Srt ts:=by
  obtain ⟨ts',c',z',k1,k2,k3,k4⟩:=lexI_some (layT tiT inl1 p l) ((layT tiT inl1 p l).length+1) 0 [] (Nat.zero_le _) (by omega) (fun t h=>by simp at h) .nil (fun t h=>by simp at h) (Nat.le_refl _)
  rw [hr.lex] at k1
  cases k1
  exact k3
 obtain ⟨h4,h5⟩:=h2 hsrt ((layT tiT inl1 p l).length:Int) (ts.length+1) (40 * ts.length+100) (Nat.le_refl _) (Nat.le_refl _)
 have hall:((p.fns.zip ls).all fun x=>blkFit x.2 1)=ls.all fun b=>blkFit b 1:=by
  have:ls=(p.fns.zip ls).map Prod.snd:=(zip_snd _ _ (by omega)).symm
  conv=>rhs;rw [this]
  rw [List.all_map];rfl
 rw [hall] at h4 h5
 refine ⟨rfl,fun hfit=>?_,fun hfit=>?_⟩
 ·obtain ⟨q',l',k1,k2,k3⟩:=h4 hfit
  rw [hr.read] at k1
  simp only [Option.some.injEq,Prod.mk.injEq] at k1
  obtain ⟨rfl,rfl⟩:=k1
  have e1:((p.fns.zip ls).map fun x=>blkTree x.2)=ls.map blkTree:=by
   have:ls=(p.fns.zip ls).map Prod.snd:=(zip_snd _ _ (by omega)).symm
   conv=>rhs;rw [this]
   rw [List.map_map];rfl
  have e2:((p.fns.zip ls).map fun x=>(x.1.name,x.1.params))=p.fns.map fun x=>(x.name,x.params):=by
   have:p.fns=(p.fns.zip ls).map Prod.fst:=(zip_fst _ _ (by omega)).symm
   conv=>rhs;rw [this]
   rw [List.map_map];rfl
  have he:ers l'=ers l:=by rw [k3,e1,forms_ers hf]
  refine ⟨k2,?_,?_⟩
  ·simp only
   rw [←szL_ers,he,szL_ers,h.len];exact h.few
  ·rw [e2];exact same_t (ls:=ls) h he
 ·obtain ⟨q',st',k1,k2⟩:=h5 hfit
  rw [hr.read] at k1
  simp only [Option.some.injEq,Prod.mk.injEq] at k1
  obtain ⟨rfl,rfl⟩:=k1
  exact k2
theorem eqL_mem {α:Type} {p:α→α→Bool} {a b:List α} (h:eqL p a b=true) {x:α} (hx:x∈a):∃ y∈b,p x y=true:=by
 obtain ⟨i,hi⟩:=List.getElem?_of_mem hx
 have hl:=eqL_len h
 have hlt:=(List.getElem?_eq_some_iff.1 hi).1
 have hb:b[i]?=some (b[i]'(by omega)):=by simp [←hl,hlt]
 exact ⟨_,List.mem_of_getElem? hb,eqL_at hi hb h⟩
theorem read_stand {p:Src} {l:List T} (hn:p.nodes.length≤800) (hb:bodI p.nodes p.fns 0 []=some (l,p.nodes.length)) {st:PS} (hok:PSok st) (hs:same p st=true):Stands p l:=by
 obtain ⟨l',h1,h2,h3,h4,h5⟩:=bodI_st _ _ _ _ _ hb
 rw [List.nil_append] at h1
 subst h1
 unfold same at hs
 simp only [Bool.and_eq_true] at hs
 obtain ⟨s1,s2,s3,s4⟩:=hs
 have hz:szL l=p.nodes.length:=by omega
 have hnodes:=StL.all h2 hz
 rw [hnodes] at s4
 have hlen:l.length=st.trees.length:=by
  have a1:=FSq.len h3
  have a2:=eqL_len s3
  unfold fnsOf at a2
  rw [List.length_mapIdx] at a2
  have:=hok.len
  omega
 have he:=sim_all hlen s4
 have hfn:∀ f∈p.fns,nameOk f.name=true∧namesOk f.params=true:=by
  intro f hf
  obtain ⟨g,hg,hp⟩:=eqL_mem s3 hf
  unfold fnsOf at hg
  obtain ⟨i,hi⟩:=List.getElem?_of_mem hg
  rw [List.getElem?_mapIdx] at hi
  cases hx:st.fns[i]? with
  | none=>rw [hx] at hi;cases hi
  | some x =>
   rw [hx] at hi
   cases hi
   simp only [sameF,Bool.and_eq_true,beq_iff_eq] at hp
   obtain ⟨⟨k1,k2⟩,_⟩:=hp
   obtain ⟨k3,k4⟩:=hok.fns x (List.mem_of_getElem? hx)
   rw [k1,eqL_beq k2];exact ⟨k3,k4⟩
 have htr:∀ t∈l,t.n.kind=14∧allT t=true:=by
  intro t ht
  have h6:er t∈ers l:=by rw [ers_map];exact List.mem_map_of_mem ht
  rw [he,ers_map] at h6
  obtain ⟨u,hu,h7⟩:=List.mem_map.1 h6
  obtain ⟨b,k1,k2⟩:=hok.trees u hu
  rw [h7] at k2
  have hat:atT t:=by
   have:∀ l:List T,atTs l→t∈l→atT t:=by
    intro l
    induction l with
    | nil=>intro _ h;cases h
    | cons v l ih =>
     intro h hm
     rw [atTs] at h
     rcases List.mem_cons.1 hm with rfl | hm
     ·exact h.1
     ·exact ih h.2 hm
   exact this l h5 ht
  refine ⟨?_,all_er t (by rw [k2];exact S.blk_all b k1) hat⟩
  have:=congrArg (fun x=>x.n.kind) k2
  simp only [er_n] at this
  exact this
 refine ⟨?_,?_,h2,FSq.mono h3 fun f t hf ht _=>⟨(hfn f hf).1,(hfn f hf).2,(htr t ht).1,(htr t ht).2⟩,hz,hn⟩
 ·rw [eqL_beq s1];exact hok.globals
 ·rw [List.all_eq_true]
  intro a ha
  obtain ⟨b,hb,hp⟩:=eqL_mem s2 ha
  have h6:=List.all_eq_true.1 hok.arrays b hb
  simp only [eqA,Bool.and_eq_true,beq_iff_eq] at hp
  unfold arOk at h6 ⊢
  rw [hp.1,hp.2];exact h6
end Go.Im
namespace Go.Im
open Go.Xp Go.Sp
def sumL {α:Type} (f:α→Nat):List α→Nat
 | []=>0
 | x::l=>f x+sumL f l
theorem sumL_app {α:Type} (f:α→Nat) (a b:List α):sumL f (a++b)=sumL f a+sumL f b:=by
 induction a with
 | nil=>simp [sumL]
 | cons x a ih=>simp only [List.cons_append,sumL,ih];omega
theorem sumL_le {α:Type} {f g:α→Nat} {l:List α} (h:∀ x∈l,f x≤g x):sumL f l≤sumL g l:=by
 induction l with
 | nil=>exact Nat.le_refl _
 | cons x l ih =>
  have h1:=h x List.mem_cons_self
  have h2:=ih fun y hy=>h y (List.mem_cons_of_mem _ hy)
  simp only [sumL];omega
theorem sumL_mem {α:Type} {f:α→Nat} {l:List α} {x:α} (h:x∈l):f x≤sumL f l:=by
 induction l with
 | nil=>cases h
 | cons y l ih =>
  rw [sumL]
  rcases List.mem_cons.1 h with rfl | h
  ·omega
  ·have:=ih h;omega
theorem sumL_lin {α:Type} {f g:α→Nat} {k:Nat} {l:List α} (h:∀ x∈l,f x≤k * g x):sumL f l≤k * sumL g l:=by
 induction l with
 | nil=>exact Nat.zero_le _
 | cons x l ih =>
  have h1:=h x List.mem_cons_self
  have h2:=ih fun y hy=>h y (List.mem_cons_of_mem _ hy)
  simp only [sumL,Nat.mul_add];omega
theorem sumL_len {α:Type} (f:α→Nat) (l:List α) (h:∀ x∈l,1≤f x):l.length≤sumL f l:=by
 induction l with
 | nil=>exact Nat.zero_le _
 | cons x l ih =>
  have h1:=h x List.mem_cons_self
  have h2:=ih fun y hy=>h y (List.mem_cons_of_mem _ hy)
  rw [sumL,List.length_cons];omega
theorem sumL_zip {α β:Type} (f:α→Nat) (g:β→Nat):∀ (a:List α) (b:List β),sumL (fun x:α × β=>f x.1+g x.2) (a.zip b)≤sumL f a+sumL g b
 | [],b=>by simp [sumL]
 | x::a,[]=>by simp [sumL]
 | x::a,y::b=>by
  have:=sumL_zip f g a b
  simp only [List.zip_cons_cons,sumL] at *;omega
theorem catF_len {α:Type} (f:α→Str):∀ (l:List α) (acc:Str),(catF f acc l).length=acc.length+sumL (fun x=>(f x).length) l
 | [],acc=>by simp [catF,sumL]
 | x::l,acc=>by rw [catF,catF_len f l,List.length_append,sumL];omega
def nodeW (n:Nd):Nat:=n.s.length+60
mutual
theorem wtI_fl:∀ (t:T) (a:Nat),wtI t=sumL nodeW (flT a t)
 | .mk n l,a=>by rw [wtI,flT,sumL,wtIs_fl l (a+1),nodeW]
theorem wtIs_fl:∀ (l:List T) (a:Nat),wtIs l=sumL nodeW (flL a l)
 | [],a=>rfl
 | t::r,a=>by rw [wtIs,flL,sumL_app,wtI_fl t a,wtIs_fl r (a+szT t)]
end
def wi (l:List T) (i:Nat):Nat:=match l[i]? with | some t=>wtI t | none=>0
theorem wi_3 (l:List T):wi l 0+wi l 1+wi l 2≤wtIs l:=by
 match l with
 | []=>simp [wi]
 | [a]=>simp only [wi,wtIs];simp
 | [a,b]=>simp only [wi,wtIs];simp
 | a::b::c::r=>simp only [wi,wtIs];simp;omega
theorem getD_wi {l:List T} {f:T→Str} (h:∀ t∈l,(f t).length≤wtI t) (i:Nat):((l.map f).getD i []).length≤wi l i:=by
 rw [List.getD_eq_getElem?_getD,List.getElem?_map]
 unfold wi
 cases hi:l[i]? with
 | none=>simp
 | some t=>exact h t (List.mem_of_getElem? hi)
theorem szT_mem {l:List T} {t:T} (h:t∈l):szT t≤szL l:=by
 induction l with
 | nil=>cases h
 | cons a l ih =>
  rw [szL]
  rcases List.mem_cons.1 h with rfl | h
  ·omega
  ·have:=ih h;omega
theorem sum_stL {f:T→Str}:∀ {l:List T},(∀ t∈l,(f t).length+4≤wtI t)→sumB (l.map f)≤wtIs l
 | [],_=>Nat.zero_le _
 | t::l,h=>by
  have h1:=h t List.mem_cons_self
  have h2:=sum_stL (l:=l) fun y hy=>h y (List.mem_cons_of_mem _ hy)
  rw [List.map_cons,sumB,wtIs];omega
theorem st_len:∀ (N:Nat) (t:T),szT t≤N→numT t→∀ d,(stT tiT inl1 d t).length+4≤wtI t∧(blT tiT inl1 d t).length≤wtI t:=by
 intro N
 induction N with
 | zero=>intro t h;have:=szT_pos t;omega
 | succ N ih =>
  intro t hN hn d
  have hsz:=szT_eq t
  rw [numT_eq] at hn
  have hk:∀ a∈t.kids,∀ d,(stT tiT inl1 d a).length+4≤wtI a∧(blT tiT inl1 d a).length≤wtI a:=fun a ha d=>ih a (by have:=szT_mem ha;omega) (numTs_mem hn.2 ha) d
  have hx:=getD_wi (l:=t.kids) (f:=tiT) (fun a ha=>by have:=tiT_len (szT a) a (Nat.le_refl _) (numTs_mem hn.2 ha);omega)
  have hb:=getD_wi (l:=t.kids) (f:=blT tiT inl1 d) (fun a ha=>(hk a ha d).2)
  have h3:=wi_3 t.kids
  have hw:=wtI_eq t
  have hown:=tiT_len (szT t) t (Nat.le_refl _) ((numT_eq t).2 hn)
  have x0:=hx 0
  have x1:=hx 1
  have b1:=hb 1
  have b2:=hb 2
  constructor
  ·rw [stT_eq,blL_map]
   unfold stN
   split
   ·simp only [List.length_append,List.length_cons,List.length_nil];omega
   split
   ·simp only [List.length_append,List.length_cons,List.length_nil];omega
   split
   ·simp only [List.length_append,List.length_cons,List.length_nil];omega
   split
   ·split
    ·simp only [List.length_append,List.length_cons,List.length_nil];omega
    ·simp only [List.length_append,List.length_cons,List.length_nil];omega
   split
   ·simp only [List.length_append,List.length_cons,List.length_nil];omega
   split
   ·simp only [List.length_append,List.length_cons,List.length_nil];omega
   split
   ·simp only [List.length_append,List.length_cons,List.length_nil];omega
   ·omega
  ·rw [blT_eq,stL_map]
   have:=sum_stL (f:=stT tiT inl1 (d+1)) (l:=t.kids) fun a ha=>(hk a ha (d+1)).1
   have e:∀ l:List Str,(inl1 l d).length=3+sumB l:=fun l=>by
    unfold inl1
    rw [List.length_append,catB_len]
    simp only [List.length_cons,List.length_nil];omega
   rw [e];omega
def wS (l:List Str):Nat:=sumL (fun s=>s.length+1) l
def wSrc (p:Src):Nat:=wS p.globals+sumL (fun a:Ar=>a.name.length+1) p.arrays+sumL (fun f:Fn=>f.name.length+wS f.params+1) p.fns+sumL (fun n:Nd=>n.s.length+n.kids.length+1) p.nodes
structure Nums (p:Src):Prop where
 arrays:∀ a∈p.arrays,-9223372036854775808≤a.size∧a.size≤9223372036854775807
 nodes:∀ n∈p.nodes,-9223372036854775808≤n.n∧n.n≤9223372036854775807
mutual
theorem StT.num {nodes:List Nd} (h:∀ n∈nodes,-9223372036854775808≤n.n∧n.n≤9223372036854775807):∀ (t:T) (a:Nat),StT nodes a t→numT t
 | .mk n l,a,hs=>by
  rw [StT] at hs
  rw [numT]
  exact ⟨h n (List.mem_of_getElem? hs.1),StL.num h l _ hs.2.2⟩
theorem StL.num {nodes:List Nd} (h:∀ n∈nodes,-9223372036854775808≤n.n∧n.n≤9223372036854775807):∀ (l:List T) (a:Nat),StL nodes a l→numTs l
 | [],a,_=>trivial
 | t::r,a,hs=>by
  rw [StL] at hs
  rw [numTs]
  exact ⟨StT.num h t a hs.1,StL.num h r _ hs.2⟩
end
theorem sum_map2 (l:List Str):(l.map fun y=>y.length+2).sum=sumL (fun s=>s.length+2) l:=by
 induction l with
 | nil=>rfl
 | cons s l ih=>rw [List.map_cons,List.sum_cons,ih,sumL]
theorem wtIs_sum (l:List T):wtIs l=sumL wtI l:=by
 induction l with
 | nil=>rfl
 | cons t l ih=>rw [wtIs,sumL,ih]
theorem lay_len {p:Src} {l:List T} (hn:Nums p) (hs:StL p.nodes 0 l) (hz:szL l=p.nodes.length):(layT tiT inl1 p l).length≤100 * wSrc p:=by
 have hnt:=StL.num hn.nodes l 0 hs
 have e1:sumL (fun s=>(g1 s).length) p.globals≤100 * wS p.globals:=sumL_lin fun s _=>by simp only [g1,List.length_append,List.length_cons,List.length_nil];omega
 have e2:sumL (fun a=>(a1 a).length) p.arrays≤100 * sumL (fun a:Ar=>a.name.length+1) p.arrays:=sumL_lin fun a ha=>by
  have:=itoaI_len (hn.arrays a ha)
  simp only [a1,List.length_append,List.length_cons,List.length_nil];omega
 have e3:sumL (fun x=>(f1 tiT inl1 x).length) (p.fns.zip l)≤sumL (fun x:Fn × T=>(fun f:Fn=>100 * (f.name.length+wS f.params+1)) x.1+wtI x.2) (p.fns.zip l):=sumL_le fun x hx=>by
  have h1:=(st_len (szT x.2) x.2 (Nat.le_refl _) (numTs_mem hnt (List.of_mem_zip hx).2) 0).2
  have h2:=joinC_le x.1.params
  rw [sum_map2] at h2
  have h3:sumL (fun s=>s.length+2) x.1.params≤2 * wS x.1.params:=sumL_lin fun s _=>by omega
  simp only [f1,List.length_append,List.length_cons,List.length_nil];omega
 have e4:=sumL_zip (fun f:Fn=>100 * (f.name.length+wS f.params+1)) wtI p.fns l
 have e5:sumL (fun f:Fn=>100 * (f.name.length+wS f.params+1)) p.fns≤100 * sumL (fun f:Fn=>f.name.length+wS f.params+1) p.fns:=sumL_lin fun f _=>Nat.le_refl _
 have e6:sumL nodeW p.nodes≤100 * sumL (fun n:Nd=>n.s.length+n.kids.length+1) p.nodes:=sumL_lin fun n _=>by unfold nodeW;omega
 have e7:sumL wtI l=sumL nodeW p.nodes:=by rw [←wtIs_sum,wtIs_fl l 0,←StL.all hs hz]
 unfold layT wSrc
 rw [catF_len,catF_len,catF_len]
 simp only [List.length_nil]
 have e8:=Nat.le_trans e3 e4
 generalize sumL (fun x=>(f1 tiT inl1 x).length) (p.fns.zip l)=v3 at *
 generalize sumL (fun s=>(g1 s).length) p.globals=v1 at *
 generalize sumL (fun a=>(a1 a).length) p.arrays=v2 at *
 omega
theorem tree_len {p:Src} {l:List T} (hs:StL p.nodes 0 l) (hz:szL l=p.nodes.length):∀ t∈l,wtI t≤100 * wSrc p∧szT t≤wSrc p:=fun t ht=>by
 have e6:sumL nodeW p.nodes≤100 * sumL (fun n:Nd=>n.s.length+n.kids.length+1) p.nodes:=sumL_lin fun n _=>by unfold nodeW;omega
 have e7:sumL wtI l=sumL nodeW p.nodes:=by rw [←wtIs_sum,wtIs_fl l 0,←StL.all hs hz]
 have e8:=sumL_mem (f:=wtI) ht
 have e9:=szT_mem ht
 have e10:=sumL_len (fun n:Nd=>n.s.length+n.kids.length+1) p.nodes fun n _=>by omega
 unfold wSrc
 omega
theorem wS_len (l:List Str):l.length≤wS l:=sumL_len _ l fun s _=>by omega
theorem wS_mem {l:List Str} {s:Str} (h:s∈l):s.length+1≤wS l:=sumL_mem (f:=fun s:Str=>s.length+1) h
structure Small (p:Src) (n:Nat):Prop where
 globals:p.globals.length≤n∧∀ s∈p.globals,s.length≤n
 arrays:p.arrays.length≤n∧∀ a∈p.arrays,a.name.length≤n
 fns:p.fns.length≤n∧∀ f∈p.fns,f.name.length≤n∧f.params.length≤n∧∀ s∈f.params,s.length≤n
 nodes:p.nodes.length≤n∧∀ x∈p.nodes,x.s.length≤n∧x.kids.length≤n
theorem small_w (p:Src):Small p (wSrc p):=by
 have a1:=wS_len p.globals
 have a2:=sumL_len (fun a:Ar=>a.name.length+1) p.arrays fun a _=>by omega
 have a3:=sumL_len (fun f:Fn=>f.name.length+wS f.params+1) p.fns fun a _=>by omega
 have a4:=sumL_len (fun n:Nd=>n.s.length+n.kids.length+1) p.nodes fun a _=>by omega
 unfold wSrc
 refine ⟨⟨by omega,fun s hs=>?_⟩,⟨by omega,fun a ha=>?_⟩,⟨by omega,fun f hf=>?_⟩,⟨by omega,fun n hn=>?_⟩⟩
 ·have:=wS_mem hs;omega
 ·have:=sumL_mem (f:=fun a:Ar=>a.name.length+1) ha;omega
 ·have:=sumL_mem (f:=fun f:Fn=>f.name.length+wS f.params+1) hf
  refine ⟨by omega,by have:=wS_len f.params;omega,fun s hs=>by have:=wS_mem hs;omega⟩
 ·have:=sumL_mem (f:=fun n:Nd=>n.s.length+n.kids.length+1) hn
  exact ⟨by omega,by omega⟩
structure PSsm (st:PS) (n:Nat):Prop where
 globals:st.globals.length≤n
 arrays:st.arrays.length≤n
 fns:st.fns.length≤n
 params:∀ x∈st.fns,x.2.length≤n
theorem iPm_sm:∀ (f:Nat) (acc:List Str) (p:RS) (l:List Str) (q:RS),iPm f acc p=some (l,q)→l.length≤acc.length+f
 | 0,_,_,_,_,h=>by cases h
 | f+1,acc,p,l,q,h=>by
  rw [iPm] at h
  split at h
  ·have:=iPm_sm f _ _ l q h
   rw [List.length_append,List.length_cons,List.length_nil] at this;omega
  ·cases h;omega
theorem PSsm.up {st:PS} {n:Nat} (h:PSsm st n):PSsm st (n+1):=by
 obtain ⟨a,b,c,d⟩:=h
 exact ⟨by omega,by omega,by omega,fun x hx=>by have:=d x hx;omega⟩
theorem iW_sm {f n:Nat} {p q:RS} {st st':PS} (hf:f≤n) (h:iW f p st=some (q,st')) (hs:PSsm st n):PSsm st' (n+1):=by
 have key:=hs.up
 obtain ⟨a,b,c,d⟩:=hs
 unfold iW at h
 split at h
 ·split at h
  ·split at h
   ·cases h;exact ⟨by simp;omega,by simp;omega,by simp;omega,fun x hx=>by have:=d x hx;omega⟩
   ·cases h;exact key
  ·cases h;exact ⟨by simp;omega,by simp;omega,by simp;omega,fun x hx=>by have:=d x hx;omega⟩
 ·split at h
  ·cases hm:iPm f [] (want (nameS p.next) [40]) with
   | none=>rw [hm] at h;cases h
   | some r =>
    obtain ⟨l,q1⟩:=r
    rw [hm] at h
    simp only at h
    have hl:=iPm_sm _ _ _ _ _ hm
    split at h
    ·split at h
     ·cases h
     ·cases h
      refine ⟨by simp;omega,by simp;omega,by simp;omega,fun x hx=>?_⟩
      rcases List.mem_append.1 hx with hx | hx
      ·have:=d x hx;omega
      ·rw [List.mem_singleton] at hx;subst hx;simp at hl ⊢;omega
    ·cases h;exact key
  ·cases h;exact key
theorem iPs_sm {f:Nat}:∀ (G n:Nat) (p q:RS) (st st':PS),f≤n→iPs G f p st=some (q,st')→PSsm st n→PSsm st' (n+G)
 | 0,n,p,q,st,st',_,h,_=>by cases h
 | G+1,n,p,q,st,st',hf,h,hs=>by
  rw [iPs] at h
  split at h
  ·cases hw:iW f p st with
   | none=>rw [hw] at h;cases h
   | some r =>
    obtain ⟨q1,s1⟩:=r
    rw [hw] at h
    simp only at h
    have:=iPs_sm G (n+1) q1 q s1 st' (by omega) h (iW_sm hf hw hs)
    rw [show n+(G+1)=n+1+G by omega];exact this
  ·cases h
   obtain ⟨a,b,c,d⟩:=hs
   exact ⟨by omega,by omega,by omega,fun x hx=>by have:=d x hx;omega⟩
mutual
theorem flT_kids:∀ (t:T) (a:Nat),∀ n∈flT a t,n.kids.length≤szT t
 | .mk m l,a,n,h=>by
  rw [flT] at h
  rw [szT]
  rcases List.mem_cons.1 h with rfl | h
  ·simp only [kidsAt_len];have:=len_le_szL l;omega
  ·have:=flL_kids l (a+1) n h;omega
theorem flL_kids:∀ (l:List T) (a:Nat),∀ n∈flL a l,n.kids.length≤szL l
 | [],a,n,h=>by rw [flL] at h;cases h
 | t::r,a,n,h=>by
  rw [flL] at h
  rw [szL]
  rcases List.mem_append.1 h with h | h
  ·have:=flT_kids t a n h;omega
  ·have:=flL_kids r _ n h;omega
end
end Go.Im
namespace Go.Sp
open Go.Xp
structure Bodies (p:Src) (ls:List (List S)):Prop where
 len:ls.length=p.fns.length
 at_:∀ (i:Nat) f l,p.fns[i]?=some f→ls[i]?=some l→0≤f.body∧S.oks l=true∧wt (blkTree l)≤1000000000∧∃ t,sub p.nodes (fN p.nodes) f.body.toNat=some t∧er t=blkTree l
theorem out_txt (a:E) (ho:a.ok=true):(a.txt).length+4≤wt a.tree:=(E.len a ho).1
theorem blk_run {l:List S} (ho:S.oks l=true) (hw:wt (blkTree l)≤1000000000) :
  ∃ ts t q f,Go.Sp.toks (blkTxt E.txt l)=some ts∧(blkTxt E.txt l).length≤1000000000∧ts.length≤1000000000∧1+f≤1099511627776∧mS f (.block 1) ⟨ts,0,(blkTxt E.txt l).length,0,0⟩=some (t,q)∧q.l=ts∧((q.code=0∧q.i=ts.length∧blkFit l 1=true)∨(q.code≠0∧blkFit l 1=false)):=by
 have hlen:=blk_len E.txt out_txt ho
 generalize hx:blkTxt E.txt l=x at *
 obtain ⟨ts,h1,h2⟩:=(lex_blk ho).all
 rw [hx] at h2
 have h3:=h2.len
 have hon:On ⟨ts,0,x.length,0,0⟩ ts:=⟨rfl,Nat.zero_le _,rfl,h2.kinds⟩
 have hne:rs (x.length:Int) (fuelOf ts) (.block 1) ts≠.error fuelOut:=block_fuel
 obtain ⟨t,q,h4,h5⟩:=(js (fuelOf ts)).block 1 ts _ hon hne
 have hrt:=block_rt (e:=(x.length:Int)) (d:=1) (rest:=[]) ho h1
 rw [List.append_nil] at hrt
 change Res _ q t (block (x.length:Int) 1 ts) at h5
 refine ⟨ts,t,q,KF (fuelOf ts),h2.all,by omega,by omega,by unfold KF fuelOf;omega,h4 _ (Nat.le_refl _),?_⟩
 cases hf:blkFit l 1 with
 | true =>
  obtain ⟨t',_,h6⟩:=hrt.1 hf
  rw [h6] at h5
  obtain ⟨_,h7,h8,_⟩:=h5
  have h8:q.l=ts:=h8
  refine ⟨h8,.inl ⟨h7.code,?_,rfl⟩⟩
  have hr:=congrArg List.length h7.rest
  have hle:=h7.le
  rw [List.length_drop] at hr
  rw [h8] at hr hle
  simp only [List.length_nil] at hr
  omega
 | false =>
  obtain ⟨pos,h6⟩:=hrt.2 hf
  rw [h6] at h5
  exact ⟨h5.2.2.2.1,.inr ⟨Aft.err h5,rfl⟩⟩
end Go.Sp
namespace Go.Im
open Go.Xp Go.Sp
def readI (p:Src) (x:Str):Bool:=match lexI x (x.length+1) 0 [] with
 | none=>false
 | some (ts,c,z)=>if c≠0 then false else match iPs (ts.length+1) (40 * ts.length+100) ⟨ts,0,(x.length:Int),0,0⟩ .empty with
  | none=>false
  | some (q,st)=>if q.code≠0 then false else if szL st.trees > 800 then false else same p st
def fI (p:Src):Bool:=if p.nodes.length > 800 then false else match bodI p.nodes p.fns 0 [] with
 | none=>false
 | some (l,e)=>if e≠p.nodes.length then false else if l.all kOk=false then false else readI p (layT tiT inl1 p l)
theorem readI_eq {p:Src} {x:Str} {ts:List Tok} {c z:Int} {q:RS} {st:PS} (h:Reads x ts c z q st):readI p x=if c≠0 then false else if q.code≠0 then false else if szL st.trees > 800 then false else same p st:=by
 unfold readI
 rw [h.lex]
 simp only
 rw [h.read]
theorem fI_t {p:Src} {l:List T} {ls:List (List S)} (h:Stands p l) (hf:Forms l ls):fI p=ls.all fun b=>blkFit b 1:=by
 unfold fI
 have h8:=h.few
 rw [if_neg (by omega),h.bod]
 simp only
 rw [if_neg (by simp),if_neg (by rw [h.k];decide)]
 obtain ⟨ts,c,z,q,st,hr⟩:=reads (layT tiT inl1 p l)
 obtain ⟨h1,h2,h3⟩:=stand_read h hf hr
 rw [readI_eq hr,if_neg (by simpa using h1)]
 cases hb:ls.all fun b=>blkFit b 1 with
 | false=>rw [if_pos (h3 hb)]
 | true =>
  obtain ⟨k1,k2,k3⟩:=h2 hb
  rw [if_neg (by simpa using k1),if_neg (by omega),k3]
theorem fI_stands {p:Src} (h:fI p=true):∃ l,Stands p l:=by
 unfold fI at h
 by_cases h8:p.nodes.length > 800
 ·rw [if_pos h8] at h;cases h
 rw [if_neg h8] at h
 cases hb:bodI p.nodes p.fns 0 [] with
 | none=>rw [hb] at h;cases h
 | some y =>
  obtain ⟨l,e⟩:=y
  rw [hb] at h
  simp only at h
  by_cases he:e=p.nodes.length
  ·subst he
   rw [if_neg (by simp)] at h
   by_cases hk:l.all kOk=false
   ·rw [if_pos hk] at h;cases h
   rw [if_neg hk] at h
   obtain ⟨ts,c,z,q,st,hr⟩:=reads (layT tiT inl1 p l)
   rw [readI_eq hr] at h
   split at h
   ·cases h
   split at h
   ·cases h
   ·rename_i hc
    split at h
    ·cases h
    ·exact ⟨l,read_stand (by omega) hb (hr.ok (by simpa using hc)).1 h⟩
  ·rw [if_pos he] at h;cases h
theorem fI_f {p:Src} (h:stand p=some false):fI p=false:=by
 cases hf:fI p with
 | false=>rfl
 | true =>
  obtain ⟨l,h1⟩:=fI_stands hf
  rw [h1.stand] at h;cases h
theorem StL.ix {nodes:List Nd}:∀ (l:List T) (a i:Nat) (t:T),StL nodes a l→l[i]?=some t→StT nodes (a+szL (l.take i)) t
 | [],a,i,t,_,h=>by simp at h
 | u::r,a,0,t,h,hi=>by
  cases hi
  rw [StL] at h
  exact h.1
 | u::r,a,i+1,t,h,hi=>by
  rw [StL] at h
  have:=StL.ix r (a+szT u) i t h.2 (by simpa using hi)
  rw [List.take_succ_cons,szL,←Nat.add_assoc];exact this
mutual
theorem wt_wtI:∀ t:T,wt t≤wtI t
 | .mk n l=>by have:=wts_wtIs l;rw [wt,wtI];omega
theorem wts_wtIs:∀ l:List T,wts l≤wtIs l
 | []=>Nat.le_refl _
 | t::r=>by have:=wt_wtI t;have:=wts_wtIs r;rw [wts,wtIs];omega
end
theorem bodies_of {p:Src} {l:List T} {ls:List (List S)} (h:Stands p l) (hf:Forms l ls) (hw:wSrc p≤1048576):Bodies p ls:=by
 have hl:=FSq.len h.fns
 refine ⟨by rw [hf.len];omega,fun i f b h1 h2=>?_⟩
 have hi:=(List.getElem?_eq_some_iff.1 h2).1
 have hlen:=hf.len
 have ht:l[i]?=some (l[i]'(by omega)):=by simp [←hlen,hi]
 obtain ⟨h3,h4⟩:=hf.at_ i _ b ht h2
 obtain ⟨h5,h6⟩:=FSq.at_ h.fns i f _ h1 ht
 have h7:=StL.ix l 0 i _ h.st ht
 rw [Nat.zero_add] at h5 h7
 have hm:=List.mem_of_getElem? ht
 have h8:=tree_len h.st h.len _ hm
 have h9:=wt_wtI (l[i]'(by omega))
 have h10:=StT.le _ _ h7
 refine ⟨by omega,h3,by rw [←h4,wt_er];omega,_,?_,h4⟩
 rw [h5,Int.toNat_natCast]
 exact (sub_st _).1 _ _ h7 (by unfold fN;omega)
theorem sumL_take {α:Type} (f:α→Nat) (l:List α) (k:Nat):sumL f (l.take k)≤sumL f l:=by
 have:sumL f l=sumL f (l.take k)+sumL f (l.drop k):=by rw [←sumL_app,List.take_append_drop]
 omega
structure ExAt (p:Src) (i:Nat) (u:T) (a:E):Prop where
 ok:a.ok=true
 er:er u=a.tree
 sub:sub p.nodes (fN p.nodes) i=some u
 tr:∃ e,trN p.nodes (p.nodes.length - i+1) i=some (u,e)
 k:kOk u=true
 num:numT u
 wt:wtI u≤100 * wSrc p
 txt:tiT u=a.txt
end Go.Im
namespace Go.Im
open Go.Xp Go.Sp
end Go.Im
namespace Go.Im
open Go.Xp Go.Sp
def szR (w left:Nat):Int:=if w≤left then ((left - w:Nat):Int) else -1
theorem szR_ok {w left:Nat} (h:w≤left):szR w left=((left - w:Nat):Int):=by unfold szR;rw [if_pos h]
theorem szR_no {w left:Nat} (h:left < w):szR w left = -1:=by unfold szR;rw [if_neg (by omega)]
theorem sumL_succ {α:Type} (w:α→Nat) (l:List α):sumL (fun x=>w x+1) l=l.length+sumL w l:=by
 induction l with
 | nil=>rfl
 | cons x l ih=>rw [sumL,ih,sumL,List.length_cons];omega
theorem sumL_snoc {α:Type} {w:α→Nat} {l:List α} {k:Nat} {x:α} (h:l[k]?=some x):sumL w (l.take (k+1))=sumL w (l.take k)+w x:=by
 have:l.take (k+1)=l.take k++[x]:=by rw [List.take_add_one,h];rfl
 rw [this,sumL_app,sumL,sumL];rfl
theorem fill_set {α β:Type} {f:α→β} {l:List α} {k:Nat} {x:α} {Z:β} (h:l[k]?=some x):((l.take k).map f++List.replicate (l.length - k) Z).set k (f x)=(l.take (k+1)).map f++List.replicate (l.length - (k+1)) Z:=by
 have hk:=(List.getElem?_eq_some_iff.1 h).1
 have ht:l.take (k+1)=l.take k++[x]:=by rw [List.take_add_one,h];rfl
 have hl:((l.take k).map f).length=k:=by rw [List.length_map,List.length_take];omega
 rw [show l.length - k=(l.length - (k+1))+1 by omega,List.replicate_succ,List.set_append_right _ _ (by omega),hl,Nat.sub_self,List.set_cons_zero,ht,List.map_append]
 simp
theorem fill_len {α β:Type} {f:α→β} {l:List α} {k:Nat} {Z:β} (h:k≤l.length):((l.take k).map f++List.replicate (l.length - k) Z).length=l.length:=by
 rw [List.length_append,List.length_map,List.length_take,List.length_replicate];omega
theorem fill_all {α β:Type} {f:α→β} {l:List α} {Z:β}:(l.take l.length).map f++List.replicate (l.length - l.length) Z=l.map f:=by
 rw [List.take_length,Nat.sub_self];simp
end Go.Im
namespace Go.Im
open Go.Xp Go.Sp
end Go.Im
namespace Go.Im
open Go.Xp Go.Sp
end Go.Im
namespace Go.Im
open Go.Xp Go.Sp
end Go.Im
namespace Go.Im
open Go.Xp Go.Sp
end Go.Im
namespace Go.Im
open Go.Xp Go.Sp
def arNames (p:Src):List Str:=p.arrays.map fun a:Ar=>a.name
def fnNames (p:Src):List Str:=p.fns.map fun f:Fn=>f.name
def namesI (p:Src):List Str:=(p.globals++arNames p)++fnNames p
structure CS where
 code:Int
 place:Int
 skip:Int
structure SS where
 ls:List Str
 code:Int
 at_:Int
end Go.Im
