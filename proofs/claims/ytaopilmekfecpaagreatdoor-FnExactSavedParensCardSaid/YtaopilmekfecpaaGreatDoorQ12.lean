/- Part 12 of proofs that are told in their last texts. -/
import Derived.Test.YtaopilmekfecpaaGreatDoorQ10
set_option linter.unusedVariables false
set_option linter.unusedSimpArgs false
namespace Go.Im
open Go.Xp Go.Sp
def fuN (n:Nd) (x:List Str):Str :=
 if n.kind=1 then itoaI n.n
 else if n.kind=3 then ((n.s++[91])++x.getD 0 [])++[93]
 else if n.kind=4 then ((n.s++[40])++joinC x)++[41]
 else if n.kind=5 then ((40::n.s)++x.getD 0 [])++[41]
 else if n.kind=6 then (((((40::x.getD 0 [])++[32])++n.s)++[32])++x.getD 1 [])++[41]
 else n.s
mutual
def fuT:T→Str
 | .mk n l=>fuN n (fuL l)
def fuL:List T→List Str
 | []=>[]
 | t::r=>fuT t::fuL r
end
theorem fuT_eq (t:T):fuT t=fuN t.n (fuL t.kids):=by cases t;rw [fuT];rfl
theorem fuL_map (l:List T):fuL l=l.map fuT:=by
 induction l with
 | nil=>rfl
 | cons t l ih=>rw [fuL,ih];rfl
theorem fuT_len:∀ (N:Nat) (t:T),szT t≤N→numT t→(fuT t).length+4≤wtI t:=by
 intro N
 induction N with
 | zero=>intro t h;rw [szT_eq] at h;omega
 | succ N ih =>
  intro t hN hn
  rw [szT_eq] at hN
  rw [numT_eq] at hn
  have hk:∀ a∈t.kids,(fuT a).length+4≤wtI a:=fun a ha=>ih a (by have:=szT_mem ha;omega) (numTs_mem hn.2 ha)
  have hsum:((fuL t.kids).map fun y=>y.length+2).sum≤wtIs t.kids:=by
   have:∀ (l:List T),(∀ a∈l,(fuT a).length+4≤wtI a)→((fuL l).map fun y=>y.length+2).sum≤wtIs l:=by
    intro l
    induction l with
    | nil=>intro _;simp [fuL]
    | cons a l ih2 =>
     intro h
     have h1:=h a (List.mem_cons_self)
     have h2:=ih2 fun b hb=>h b (List.mem_cons_of_mem _ hb)
     rw [fuL,wtIs,List.map_cons,List.sum_cons];omega
   exact this _ hk
  have hx:=getD_wi (l:=t.kids) (f:=fuT) (fun a ha=>by have:=hk a ha;omega)
  have h3:=wi_3 t.kids
  have x0:=hx 0
  have x1:=hx 1
  rw [←fuL_map] at x0 x1
  rw [fuT_eq,wtI_eq]
  unfold fuN
  split
  ·have:=itoaI_len hn.1;omega
  split
  ·simp only [List.length_append,List.length_cons,List.length_nil];omega
  split
  ·have:=joinC_le (fuL t.kids)
   simp only [List.length_append,List.length_cons,List.length_nil];omega
  split
  ·simp only [List.length_append,List.length_cons,List.length_nil];omega
  split
  ·simp only [List.length_append,List.length_cons,List.length_nil];omega
  ·omega
mutual
theorem fuT_er:∀ t:T,fuT (er t)=fuT t
 | .mk n l=>by rw [er,fuT,fuT,fuL_ers l];rfl
theorem fuL_ers:∀ l:List T,fuL (ers l)=fuL l
 | []=>by rw [ers]
 | t::r=>by rw [ers,fuL,fuL,fuT_er t,fuL_ers r]
end
mutual
theorem fuT_txt:∀ a:E,a.ok=true→fuT a.tree=a.full
 | .num n,h=>by
  simp only [E.ok,Bool.and_eq_true,decide_eq_true_eq] at h
  rw [E.tree,fuT,E.full]
  unfold fuN itoaI
  simp only [if_true]
  rw [if_neg (by omega)]
 | .name s,h=>by
  rw [E.tree,fuT,E.full]
  simp [fuN]
 | .at_ s a,h=>by
  simp only [E.ok,Bool.and_eq_true] at h
  have h2:=fuT_txt a h.2
  rw [E.tree,fuT,fuL,fuL,h2,E.full]
  simp [fuN]
 | .call s l,h=>by
  simp only [E.ok,Bool.and_eq_true] at h
  rw [E.tree,fuT,fuL_txt l h.2,E.full]
  simp [fuN]
 | .un s a,h=>by
  simp only [E.ok,Bool.and_eq_true] at h
  have h2:=fuT_txt a h.2
  rw [E.tree,fuT,fuL,fuL,h2,E.full]
  simp [fuN]
 | .bin s a b,h=>by
  simp only [E.ok,Bool.and_eq_true] at h
  have h2:=fuT_txt a h.1.2
  have h3:=fuT_txt b h.2
  rw [E.tree,fuT,fuL,fuL,fuL,h2,h3,E.full]
  simp [fuN]
theorem fuL_txt:∀ l:List E,E.oks l=true→fuL (E.trees l)=E.fulls l
 | [],_=>rfl
 | a::l,h=>by
  simp only [E.oks,Bool.and_eq_true] at h
  rw [E.trees,fuL,E.fulls,fuT_txt a h.1,fuL_txt l h.2]
end
mutual
theorem stT_erF (inl:List Str→Nat→Str):∀ (t:T) (d:Nat),stT fuT inl d (er t)=stT fuT inl d t
 | .mk n l,d=>by
  have h:=fuT_er (.mk n l)
  rw [er] at h ⊢
  rw [stT,stT,h,blL_ersF inl l d,ers_len]
  have:(ers l).map fuT=l.map fuT:=by rw [←fuL_map,←fuL_map,fuL_ers]
  rw [this]
  rfl
theorem blL_ersF (inl:List Str→Nat→Str):∀ (l:List T) (d:Nat),blL fuT inl d (ers l)=blL fuT inl d l
 | [],d=>by rw [ers]
 | t::r,d=>by rw [ers,blL,blL,blT_erF inl t d,blL_ersF inl r d]
theorem blT_erF (inl:List Str→Nat→Str):∀ (t:T) (d:Nat),blT fuT inl d (er t)=blT fuT inl d t
 | .mk n l,d=>by rw [er,blT,blT,stL_ersF inl l (d+1)]
theorem stL_ersF (inl:List Str→Nat→Str):∀ (l:List T) (d:Nat),stL fuT inl d (ers l)=stL fuT inl d l
 | [],d=>by rw [ers]
 | t::r,d=>by rw [ers,stL,stL,stT_erF inl t d,stL_ersF inl r d]
end
mutual
theorem stT_txtF:∀ (s:S),s.ok=true→∀ d,stT fuT inl1 d s.tree=s.txt E.full
 | .set s a,h,d=>by
  simp only [S.ok,Bool.and_eq_true] at h
  rw [S.tree,stT,List.map_cons,fuT_txt a h.2,S.txt]
  simp [stN]
 | .var s a,h,d=>by
  simp only [S.ok,Bool.and_eq_true] at h
  rw [S.tree,stT,List.map_cons,fuT_txt a h.2,S.txt]
  simp [stN]
 | .ret a,h,d=>by
  simp only [S.ok] at h
  rw [S.tree,stT,List.map_cons,fuT_txt a h,S.txt]
  simp [stN]
 | .do_ a,h,d=>by
  simp only [S.ok] at h
  rw [S.tree,stT,List.map_cons,fuT_txt a h,S.txt]
  simp [stN]
 | .put s a b,h,d=>by
  simp only [S.ok,Bool.and_eq_true] at h
  rw [S.tree,stT,List.map_cons,List.map_cons,fuT_txt a h.2.1,fuT_txt b h.2.2,S.txt]
  simp [stN]
 | .if1 c b,h,d=>by
  simp only [S.ok,Bool.and_eq_true] at h
  have hb:=blT_txtF b h.2 d
  rw [S.tree,stT,List.map_cons,fuT_txt c h.1,blL,blL,blL,hb,S.txt]
  simp [stN,blkTxt]
 | .if2 c b b2,h,d=>by
  simp only [S.ok,Bool.and_eq_true] at h
  have hb:=blT_txtF b h.2.1 d
  have hb2:=blT_txtF b2 h.2.2 d
  rw [S.tree,stT,List.map_cons,fuT_txt c h.1,blL,blL,blL,blL,hb,hb2,S.txt]
  simp [stN,blkTxt]
 | .while_ c b,h,d=>by
  simp only [S.ok,Bool.and_eq_true] at h
  have hb:=blT_txtF b h.2 d
  rw [S.tree,stT,List.map_cons,fuT_txt c h.1,blL,blL,blL,hb,S.txt]
  simp [stN,blkTxt]
theorem blT_txtF:∀ (l:List S),S.oks l=true→∀ d,blT fuT inl1 d (.mk ⟨14,0,0,[],[]⟩ (S.trees l))=blkTxt E.full l
 | l,h,d=>by
  rw [blT,stL_txtF l h (d+1),inl1,catB_txts];rfl
theorem stL_txtF:∀ (l:List S),S.oks l=true→∀ d,stL fuT inl1 d (S.trees l)=l.map (S.txt E.full)
 | [],_,d=>by rw [S.trees,stL];rfl
 | a::l,h,d=>by
  simp only [S.oks,Bool.and_eq_true] at h
  rw [S.trees,stL,List.map_cons,stT_txtF a h.1,stL_txtF l h.2]
end
theorem st_lenF:∀ (N:Nat) (t:T),szT t≤N→numT t→∀ d,(stT fuT inl1 d t).length+4≤wtI t∧(blT fuT inl1 d t).length≤wtI t:=by
 intro N
 induction N with
 | zero=>intro t h;have:=szT_pos t;omega
 | succ N ih =>
  intro t hN hn d
  have hsz:=szT_eq t
  rw [numT_eq] at hn
  have hk:∀ a∈t.kids,∀ d,(stT fuT inl1 d a).length+4≤wtI a∧(blT fuT inl1 d a).length≤wtI a:=fun a ha d=>ih a (by have:=szT_mem ha;omega) (numTs_mem hn.2 ha) d
  have hx:=getD_wi (l:=t.kids) (f:=fuT) (fun a ha=>by have:=fuT_len (szT a) a (Nat.le_refl _) (numTs_mem hn.2 ha);omega)
  have hb:=getD_wi (l:=t.kids) (f:=blT fuT inl1 d) (fun a ha=>(hk a ha d).2)
  have h3:=wi_3 t.kids
  have hw:=wtI_eq t
  have hown:=fuT_len (szT t) t (Nat.le_refl _) ((numT_eq t).2 hn)
  have x0:=hx 0
  have x1:=hx 1
  have b1:=hb 1
  have b2:=hb 2
  constructor
  ·rw [stT_eq,blL_map]
   unfold stN
   split
   ·simp only [List.length_append,List.length_cons,List.length_nil];omega
   split
   ·simp only [List.length_append,List.length_cons,List.length_nil];omega
   split
   ·simp only [List.length_append,List.length_cons,List.length_nil];omega
   split
   ·split
    ·simp only [List.length_append,List.length_cons,List.length_nil];omega
    ·simp only [List.length_append,List.length_cons,List.length_nil];omega
   split
   ·simp only [List.length_append,List.length_cons,List.length_nil];omega
   split
   ·simp only [List.length_append,List.length_cons,List.length_nil];omega
   split
   ·simp only [List.length_append,List.length_cons,List.length_nil];omega
   ·omega
  ·rw [blT_eq,stL_map]
   have:=sum_stL (f:=stT fuT inl1 (d+1)) (l:=t.kids) fun a ha=>(hk a ha (d+1)).1
   have e:∀ l:List Str,(inl1 l d).length=3+sumB l:=fun l=>by
    unfold inl1
    rw [List.length_append,catB_len]
    simp only [List.length_cons,List.length_nil];omega
   rw [e];omega
theorem lay_lenF {p:Src} {l:List T} (hn:Nums p) (hs:StL p.nodes 0 l) (hz:szL l=p.nodes.length):(layT fuT inl1 p l).length≤100 * wSrc p:=by
 have hnt:=StL.num hn.nodes l 0 hs
 have e1:sumL (fun s=>(g1 s).length) p.globals≤100 * wS p.globals:=sumL_lin fun s _=>by simp only [g1,List.length_append,List.length_cons,List.length_nil];omega
 have e2:sumL (fun a=>(a1 a).length) p.arrays≤100 * sumL (fun a:Ar=>a.name.length+1) p.arrays:=sumL_lin fun a ha=>by
  have:=itoaI_len (hn.arrays a ha)
  simp only [a1,List.length_append,List.length_cons,List.length_nil];omega
 have e3:sumL (fun x=>(f1 fuT inl1 x).length) (p.fns.zip l)≤sumL (fun x:Fn × T=>(fun f:Fn=>100 * (f.name.length+wS f.params+1)) x.1+wtI x.2) (p.fns.zip l):=sumL_le fun x hx=>by
  have h1:=(st_lenF (szT x.2) x.2 (Nat.le_refl _) (numTs_mem hnt (List.of_mem_zip hx).2) 0).2
  have h2:=joinC_le x.1.params
  rw [sum_map2] at h2
  have h3:sumL (fun s=>s.length+2) x.1.params≤2 * wS x.1.params:=sumL_lin fun s _=>by omega
  simp only [f1,List.length_append,List.length_cons,List.length_nil];omega
 have e4:=sumL_zip (fun f:Fn=>100 * (f.name.length+wS f.params+1)) wtI p.fns l
 have e5:sumL (fun f:Fn=>100 * (f.name.length+wS f.params+1)) p.fns≤100 * sumL (fun f:Fn=>f.name.length+wS f.params+1) p.fns:=sumL_lin fun f _=>Nat.le_refl _
 have e6:sumL nodeW p.nodes≤100 * sumL (fun n:Nd=>n.s.length+n.kids.length+1) p.nodes:=sumL_lin fun n _=>by unfold nodeW;omega
 have e7:sumL wtI l=sumL nodeW p.nodes:=by rw [←wtIs_sum,wtIs_fl l 0,←StL.all hs hz]
 unfold layT wSrc
 rw [catF_len,catF_len,catF_len]
 simp only [List.length_nil]
 have e8:=Nat.le_trans e3 e4
 generalize sumL (fun x=>(f1 fuT inl1 x).length) (p.fns.zip l)=v3 at *
 generalize sumL (fun s=>(g1 s).length) p.globals=v1 at *
 generalize sumL (fun a=>(a1 a).length) p.arrays=v2 at *
 omega
def f3 (x:Fn × List S):Str:=((((([102,117,110,99,32]++x.1.name)++[40])++joinC x.1.params)++[41,32])++blkTxt E.full x.2)++[10]
def fuP (p:Src) (ls:List (List S)):Str:=catF f3 (catF a1 (catF g1 [] p.globals) p.arrays) (p.fns.zip ls)
theorem lay_fu {p:Src} {l:List T} {ls:List (List S)} (hf:Forms l ls):layT fuT inl1 p l=fuP p ls:=by
 unfold layT
 refine cat_f3 (g:=blkTxt E.full) _ _ _ _ hf.len fun i t b h1 h2=>?_
 obtain ⟨h3,h4⟩:=hf.at_ i t b h1 h2
 rw [←blT_erF,h4]
 exact blT_txtF b h3 0
open Classical in
noncomputable def prF (p:Src):Str:=if h:∃ l ls,fI p=true∧Stands p l∧Forms l ls then fuP p h.choose_spec.choose else []
theorem prF_yes {p:Src} {l:List T} {ls:List (List S)} (hf:fI p=true) (h:Stands p l) (hm:Forms l ls):prF p=fuP p ls:=by
 have hex:∃ l ls,fI p=true∧Stands p l∧Forms l ls:=⟨l,ls,hf,h,hm⟩
 unfold prF
 rw [dif_pos hex]
 obtain ⟨h1,h2,h3⟩:=hex.choose_spec.choose_spec
 have e:=h2.uniq h
 rw [←lay_fu h3,e,lay_fu hm]
theorem prF_no {p:Src} (hf:fI p=false):prF p=[]:=by
 unfold prF
 rw [dif_neg]
 rintro ⟨_,_,h,_⟩
 rw [hf] at h;cases h
theorem prF_len {p:Src} (hn:Nums p) (hw:wSrc p≤1048576):(prF p).length≤104857600:=by
 cases hf:fI p with
 | false=>rw [prF_no hf];simp
 | true =>
  obtain ⟨l,hl⟩:=fI_stands hf
  obtain ⟨ls,hm⟩:=hl.forms
  rw [prF_yes hf hl hm,←lay_fu hm]
  have:=lay_lenF hn hl.st hl.len
  omega
end Go.Im
