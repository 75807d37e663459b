/- Part 10 of proofs that are told in their last texts. -/
import Derived.Test.YtaopilmekfecpaaGreatDoorQ3
set_option linter.unusedVariables false
set_option linter.unusedSimpArgs false
namespace Go.Im
open Go.Xp Go.Sp
def blanks (d:Nat):Str:=List.replicate (2 * d) 32
theorem blanks_len (d:Nat):(blanks d).length=2 * d:=by unfold blanks;rw [List.length_replicate]
theorem blanks_succ (d:Nat):blanks (d+1)=blanks d++[32,32]:=by
 unfold blanks
 rw [show 2 * (d+1)=2 * d+2 by omega,←List.replicate_append_replicate];rfl
def catN (d:Nat) (acc:Str) (l:List Str):Str:=l.foldl (fun acc s=>acc++((blanks (d+1)++s)++[10])) acc
def inlN (l:List Str) (d:Nat):Str:=(catN d [123,10] l++blanks d)++[125]
def sumN (d:Nat):List Str→Nat
 | []=>0
 | s::l=>s.length+(2 * (d+1)+1)+sumN d l
theorem catN_len (d:Nat) (l:List Str):∀ acc,(catN d acc l).length=acc.length+sumN d l:=by
 induction l with
 | nil=>intro acc;simp [catN,sumN]
 | cons s l ih =>
  intro acc
  have:=ih (acc++((blanks (d+1)++s)++[10]))
  simp only [catN,List.foldl_cons,sumN,List.length_append,List.length_cons,List.length_nil,blanks_len] at this ⊢
  omega
theorem sumN_app (d:Nat) (a b:List Str):sumN d (a++b)=sumN d a+sumN d b:=by
 induction a with
 | nil=>simp [sumN]
 | cons s a ih=>simp only [List.cons_append,sumN,ih];omega
theorem sumN_take (d:Nat) (l:List Str) (k:Nat):sumN d (l.take k)≤sumN d l:=by
 have:sumN d l=sumN d (l.take k)+sumN d (l.drop k):=by rw [←sumN_app,List.take_append_drop]
 omega
theorem catN_snoc (d:Nat) (acc:Str) (l:List Str) (s:Str):catN d acc (l++[s])=catN d acc l++((blanks (d+1)++s)++[10]):=by simp [catN]
theorem inlN_len (l:List Str) (d:Nat):(inlN l d).length=3+2 * d+sumN d l:=by
 unfold inlN
 simp only [List.length_append,catN_len,blanks_len,List.length_cons,List.length_nil];omega
theorem sumN_mem {d:Nat} {l:List Str} {s:Str} (h:s∈l):s.length+(2 * (d+1)+1)≤sumN d l:=by
 induction l with
 | nil=>cases h
 | cons a l ih =>
  rw [sumN]
  rcases List.mem_cons.1 h with rfl | h
  ·omega
  ·have:=ih h;omega
theorem inlN_mem {l:List Str} {d:Nat} {s:Str} (h:s∈l):s.length≤(inlN l d).length:=by
 have h1:=sumN_mem (d:=d) h
 rw [inlN_len];omega
mutual
def prS:Nat→S→Str
 | d,.if1 c b=>(([105,102,32,40]++c.txt)++[41,32])++((prSs d [123,10] b++blanks d)++[125])
 | d,.if2 c b b2=>(((([105,102,32,40]++c.txt)++[41,32])++((prSs d [123,10] b++blanks d)++[125]))++[32,101,108,115,101,32])++((prSs d [123,10] b2++blanks d)++[125])
 | d,.while_ c b=>(([119,104,105,108,101,32,40]++c.txt)++[41,32])++((prSs d [123,10] b++blanks d)++[125])
 | _,.set s a=>S.txt E.txt (.set s a)
 | _,.put s a b=>S.txt E.txt (.put s a b)
 | _,.ret a=>S.txt E.txt (.ret a)
 | _,.do_ a=>S.txt E.txt (.do_ a)
 | _,.var s a=>S.txt E.txt (.var s a)
def prSs:Nat→Str→List S→Str
 | _,acc,[]=>acc
 | d,acc,a::l=>prSs d (((acc++blanks (d+1))++prS (d+1) a)++[10]) l
end
def prB (d:Nat) (l:List S):Str:=(prSs d [123,10] l++blanks d)++[125]
theorem catN_prs (d:Nat):∀ (l:List S) (acc:Str),catN d acc (l.map (prS (d+1)))=prSs d acc l
 | [],acc=>by rw [prSs];rfl
 | a::l,acc=>by
  rw [prSs,←catN_prs d l]
  simp [catN,List.append_assoc]
mutual
theorem stT_pr:∀ (s:S),s.ok=true→∀ d,stT tiT inlN d s.tree=prS d s
 | .set s a,h,d=>by
  simp only [S.ok,Bool.and_eq_true] at h
  rw [S.tree,stT,List.map_cons,tiT_txt a h.2,prS,S.txt]
  simp [stN]
 | .var s a,h,d=>by
  simp only [S.ok,Bool.and_eq_true] at h
  rw [S.tree,stT,List.map_cons,tiT_txt a h.2,prS,S.txt]
  simp [stN]
 | .ret a,h,d=>by
  simp only [S.ok] at h
  rw [S.tree,stT,List.map_cons,tiT_txt a h,prS,S.txt]
  simp [stN]
 | .do_ a,h,d=>by
  simp only [S.ok] at h
  rw [S.tree,stT,List.map_cons,tiT_txt a h,prS,S.txt]
  simp [stN]
 | .put s a b,h,d=>by
  simp only [S.ok,Bool.and_eq_true] at h
  rw [S.tree,stT,List.map_cons,List.map_cons,tiT_txt a h.2.1,tiT_txt b h.2.2,prS,S.txt]
  simp [stN]
 | .if1 c b,h,d=>by
  simp only [S.ok,Bool.and_eq_true] at h
  have hb:=blT_pr b h.2 d
  rw [S.tree,stT,List.map_cons,tiT_txt c h.1,blL,blL,blL,hb,prS]
  simp [stN,prB]
 | .if2 c b b2,h,d=>by
  simp only [S.ok,Bool.and_eq_true] at h
  have hb:=blT_pr b h.2.1 d
  have hb2:=blT_pr b2 h.2.2 d
  rw [S.tree,stT,List.map_cons,tiT_txt c h.1,blL,blL,blL,blL,hb,hb2,prS]
  simp [stN,prB]
 | .while_ c b,h,d=>by
  simp only [S.ok,Bool.and_eq_true] at h
  have hb:=blT_pr b h.2 d
  rw [S.tree,stT,List.map_cons,tiT_txt c h.1,blL,blL,blL,hb,prS]
  simp [stN,prB]
theorem blT_pr:∀ (l:List S),S.oks l=true→∀ d,blT tiT inlN d (.mk ⟨14,0,0,[],[]⟩ (S.trees l))=prB d l
 | l,h,d=>by
  rw [blT,stL_pr l h (d+1),inlN,catN_prs];rfl
theorem stL_pr:∀ (l:List S),S.oks l=true→∀ d,stL tiT inlN d (S.trees l)=l.map (prS d)
 | [],_,d=>by rw [S.trees,stL];rfl
 | a::l,h,d=>by
  simp only [S.oks,Bool.and_eq_true] at h
  rw [S.trees,stL,List.map_cons,stT_pr a h.1,stL_pr l h.2]
end
theorem pr_len (B:Nat):∀ (N:Nat),(∀ s:S,szT s.tree≤N→s.ok=true→∀ d,2 * (d+szT s.tree)+4≤B→(prS d s).length+4+B≤wt s.tree+szT s.tree * (2 * B)) ∧
  (∀ l:List S,szL (S.trees l)≤N→S.oks l=true→∀ d acc,2 * (d+1+szL (S.trees l))+4≤B→(prSs d acc l).length≤acc.length+wts (S.trees l)+szL (S.trees l) * (2 * B)):=by
 intro N
 induction N with
 | zero =>
  refine ⟨fun s h=>by have:=szT_pos s.tree;omega,fun l h ho d acc hd=>?_⟩
  cases l with
  | nil=>rw [prSs];omega
  | cons a l=>rw [S.trees,szL] at h;have:=szT_pos a.tree;omega
 | succ N ih =>
  obtain ⟨ih1,ih2⟩:=ih
  have base:∀ s:S,s.ok=true→(S.txt E.txt s).length+4≤wt s.tree:=fun s h=>S.len E.txt out_txt s h
  have leaf:∀ (s:S),s.ok=true→(S.txt E.txt s).length+4+B≤wt s.tree+szT s.tree * (2 * B):=fun s h=>by
   have h1:=base s h
   have h2:1 * (2 * B)≤szT s.tree * (2 * B):=Nat.mul_le_mul_right _ (szT_pos _)
   omega
  have hS:∀ s:S,szT s.tree≤N+1→s.ok=true→∀ d,2 * (d+szT s.tree)+4≤B→(prS d s).length+4+B≤wt s.tree+szT s.tree * (2 * B):=by
   intro s hs ho d hd
   cases s with
   | set s a=>rw [prS];exact leaf _ ho
   | put s a b=>rw [prS];exact leaf _ ho
   | ret a=>rw [prS];exact leaf _ ho
   | do_ a=>rw [prS];exact leaf _ ho
   | var s a=>rw [prS];exact leaf _ ho
   | if1 c b =>
    simp only [S.ok,Bool.and_eq_true] at ho
    simp only [S.tree,szT,szL,wt,wts,Nat.add_mul] at hs hd ⊢
    have hc:=E.len c ho.1
    have hz:=szT_pos c.tree
    have h1:=ih2 b (by omega) ho.2 d [123,10] (by omega)
    have h2:1 * (2 * B)≤szT c.tree * (2 * B):=Nat.mul_le_mul_right _ hz
    rw [prS]
    simp only [List.length_append,List.length_cons,List.length_nil,blanks_len] at h1 ⊢
    omega
   | while_ c b =>
    simp only [S.ok,Bool.and_eq_true] at ho
    simp only [S.tree,szT,szL,wt,wts,Nat.add_mul] at hs hd ⊢
    have hc:=E.len c ho.1
    have hz:=szT_pos c.tree
    have h1:=ih2 b (by omega) ho.2 d [123,10] (by omega)
    have h2:1 * (2 * B)≤szT c.tree * (2 * B):=Nat.mul_le_mul_right _ hz
    rw [prS]
    simp only [List.length_append,List.length_cons,List.length_nil,blanks_len] at h1 ⊢
    omega
   | if2 c b b2 =>
    simp only [S.ok,Bool.and_eq_true] at ho
    simp only [S.tree,szT,szL,wt,wts,Nat.add_mul] at hs hd ⊢
    have hc:=E.len c ho.1
    have hz:=szT_pos c.tree
    have h1:=ih2 b (by omega) ho.2.1 d [123,10] (by omega)
    have h3:=ih2 b2 (by omega) ho.2.2 d [123,10] (by omega)
    have h2:1 * (2 * B)≤szT c.tree * (2 * B):=Nat.mul_le_mul_right _ hz
    rw [prS]
    simp only [List.length_append,List.length_cons,List.length_nil,blanks_len] at h1 h3 ⊢
    omega
  refine ⟨hS,fun l=>?_⟩
  induction l with
  | nil=>intro _ _ d acc _;rw [prSs];omega
  | cons a l ihl =>
   intro hl ho d acc hd
   simp only [S.oks,Bool.and_eq_true] at ho
   simp only [S.trees,szL,wts,Nat.add_mul] at hl hd ⊢
   have hz:=szT_pos a.tree
   have h1:=hS a (by omega) ho.1 (d+1) (by omega)
   have h2:=ihl (by omega) ho.2 d (((acc++blanks (d+1))++prS (d+1) a)++[10]) (by omega)
   rw [prSs]
   simp only [List.length_append,List.length_cons,List.length_nil,blanks_len] at h2
   omega
theorem prB_len {B d:Nat} {l:List S} (ho:S.oks l=true) (hd:2 * (d+szT (blkTree l))+4≤B):(prB d l).length≤wt (blkTree l)+szT (blkTree l) * (2 * B):=by
 rw [blkTree,szT] at hd ⊢
 have h1:=(pr_len B _).2 l (Nat.le_refl _) ho d [123,10] (by omega)
 unfold prB
 simp only [List.length_append,List.length_cons,List.length_nil,blanks_len,wt,Nat.add_mul] at h1 ⊢
 omega
end Go.Im
namespace Go.Im
open Go.Xp Go.Sp
def f2N (x:Fn × List S):Str:=((((([102,117,110,99,32]++x.1.name)++[40])++joinC x.1.params)++[41,32])++prB 0 x.2)++[10]
def prT (p:Src) (ls:List (List S)):Str:=catF f2N (catF a1 (catF g1 [] p.globals) p.arrays) (p.fns.zip ls)
theorem cat_f3 {tx:T→Str} {inl:List Str→Nat→Str} {g:List S→Str}:∀ (fns:List Fn) (l:List T) (ls:List (List S)) (acc:Str),ls.length=l.length→(∀ (i:Nat) t b,l[i]?=some t→ls[i]?=some b→blT tx inl 0 t=g b) →
  catF (f1 tx inl) acc (fns.zip l)=catF (fun x:Fn × List S=>((((([102,117,110,99,32]++x.1.name)++[40])++joinC x.1.params)++[41,32])++g x.2)++[10]) acc (fns.zip ls)
 | [],l,ls,acc,_,_=>by simp [catF]
 | f::r,[],[],acc,_,_=>by simp [catF]
 | f::r,t::l,b::ls,acc,hl,h=>by
  have h0:=h 0 t b rfl rfl
  rw [List.zip_cons_cons,List.zip_cons_cons,catF,catF,cat_f3 r l ls _ (by simpa using hl) fun i t' b' h1 h2=>h (i+1) t' b' (by simpa using h1) (by simpa using h2)]
  simp only [f1,h0]
 | f::r,[],b::ls,acc,hl,_=>by simp at hl
 | f::r,t::l,[],acc,hl,_=>by simp at hl
theorem sumL_const {α:Type} (c:Nat) (l:List α):sumL (fun _=>c) l=l.length * c:=by
 induction l with
 | nil=>simp [sumL]
 | cons x l ih=>rw [sumL,ih,List.length_cons,Nat.succ_mul];omega
theorem lay_pr {p:Src} {l:List T} {ls:List (List S)} (hf:Forms l ls):layT tiT inlN p l=prT p ls:=by
 unfold layT
 refine cat_f3 (g:=prB 0) _ _ _ _ hf.len fun i t b h1 h2=>?_
 obtain ⟨h3,h4⟩:=hf.at_ i t b h1 h2
 rw [←blT_er,h4]
 exact blT_pr b h3 0
theorem Stands.szs {p:Src} {l:List T} {ls:List (List S)} (h:Stands p l) (hf:Forms l ls):∀ b∈ls,S.oks b=true∧szT (blkTree b)≤800∧wt (blkTree b)≤100 * wSrc p:=fun b hb=>by
 obtain ⟨i,hi⟩:=List.getElem?_of_mem hb
 have hlt:=(List.getElem?_eq_some_iff.1 hi).1
 have hl:=hf.len
 have ht:l[i]?=some (l[i]'(by omega)):=by simp [←hl,hlt]
 obtain ⟨h1,h2⟩:=hf.at_ i _ b ht hi
 have hm:=List.mem_of_getElem? ht
 have h3:=szT_mem hm
 have h4:=tree_len h.st h.len _ hm
 have h5:=wt_wtI (l[i]'(by omega))
 have h6:=h.len
 have h7:=h.few
 refine ⟨h1,?_,?_⟩
 ·rw [←h2,szT_er];omega
 ·rw [←h2,wt_er];omega
theorem pr_small {p:Src} {l:List T} {ls:List (List S)} (h:Stands p l) (hf:Forms l ls) (hw:wSrc p≤1048576):∀ b∈ls,(prB 0 b).length≤200000000:=fun b hb=>by
 obtain ⟨h1,h2,h3⟩:=h.szs hf b hb
 have h4:=prB_len (B:=2004) (d:=0) h1 (by omega)
 have h5:szT (blkTree b) * (2 * 2004)≤800 * (2 * 2004):=Nat.mul_le_mul_right _ h2
 omega
theorem arOk_nums {p:Src} {l:List T} (h:Stands p l):∀ a∈p.arrays,0≤a.size∧a.size≤2147483647:=fun a ha=>by
 have:=List.all_eq_true.1 h.arrays a ha
 unfold arOk at this
 simp only [Bool.and_eq_true,Bool.not_eq_true',decide_eq_false_iff_not] at this
 omega
theorem prT_len {p:Src} {l:List T} {ls:List (List S)} (h:Stands p l) (hf:Forms l ls) (hw:wSrc p≤1048576):(prT p ls).length≤200000000000:=by
 have hps:=pr_small h hf hw
 have hnm:=arOk_nums h
 have e1:sumL (fun s=>(g1 s).length) p.globals≤100 * wS p.globals:=sumL_lin fun s _=>by simp only [g1,List.length_append,List.length_cons,List.length_nil];omega
 have e2:sumL (fun a=>(a1 a).length) p.arrays≤100 * sumL (fun a:Ar=>a.name.length+1) p.arrays:=sumL_lin fun a ha=>by
  have:=itoaI_len (n:=a.size) (by have:=hnm a ha;omega)
  simp only [a1,List.length_append,List.length_cons,List.length_nil];omega
 have e3:sumL (fun x=>(f2N x).length) (p.fns.zip ls)≤sumL (fun x:Fn × List S=>(fun f:Fn=>100 * (f.name.length+wS f.params+1)) x.1+(fun _:List S=>200000000) x.2) (p.fns.zip ls):=sumL_le fun x hx=>by
  have h1:=hps x.2 (List.of_mem_zip hx).2
  have h2:=joinC_le x.1.params
  rw [sum_map2] at h2
  have h3:sumL (fun s=>s.length+2) x.1.params≤2 * wS x.1.params:=sumL_lin fun s _=>by omega
  simp only [f2N,List.length_append,List.length_cons,List.length_nil];omega
 have e4:=sumL_zip (fun f:Fn=>100 * (f.name.length+wS f.params+1)) (fun _:List S=>200000000) p.fns ls
 have e5:sumL (fun f:Fn=>100 * (f.name.length+wS f.params+1)) p.fns≤100 * sumL (fun f:Fn=>f.name.length+wS f.params+1) p.fns:=sumL_lin fun f _=>Nat.le_refl _
 have e6:sumL (fun _:List S=>200000000) ls=ls.length * 200000000:=sumL_const _ _
 have e7:ls.length≤800:=by
  have h1:=hf.len
  have h2:=len_le_szL l
  have h3:=h.len
  have h4:=h.few
  omega
 have e8:=Nat.le_trans e3 e4
 unfold prT
 unfold wSrc at hw
 rw [catF_len,catF_len,catF_len]
 simp only [List.length_nil]
 generalize sumL (fun x=>(f2N x).length) (p.fns.zip ls)=v3 at *
 generalize sumL (fun s=>(g1 s).length) p.globals=v1 at *
 generalize sumL (fun a=>(a1 a).length) p.arrays=v2 at *
 omega
def cutK (s:Str) (b:UInt8):Nat→List Str × Nat
 | 0=>([],0)
 | k+1=>match s[k]? with
  | some c=>if ((c.toNat:Int)==(b.toNat:Int))=true then ((cutK s b k).1++[(s.take k).drop (cutK s b k).2],k+1) else cutK s b k
  | none=>cutK s b k
theorem cutK_from (s:Str) (b:UInt8):∀ k,k≤s.length→(cutK s b k).2≤k
 | 0,_=>Nat.le_refl _
 | k+1,h=>by
  have:=cutK_from s b k (by omega)
  rw [cutK]
  split
  ·split
   ·exact Nat.le_refl _
   ·omega
  ·omega
theorem cutK_len (s:Str) (b:UInt8):∀ k,k≤s.length→(cutK s b k).1.length=(s.take k).count b
 | 0,_=>by simp [cutK]
 | k+1,h=>by
  have ih:=cutK_len s b k (by omega)
  have hk:s[k]?=some (s[k]'(by omega)):=List.getElem?_eq_getElem _
  have ht:s.take (k+1)=s.take k++[s[k]'(by omega)]:=by rw [List.take_add_one,hk];rfl
  rw [cutK,hk,ht,List.count_append,←ih]
  simp only
  by_cases hc:s[k]'(by omega)=b
  ·rw [if_pos (by rw [hc];simp),hc];simp
  ·have hne:((s[k]'(by omega)).toNat:Int)≠(b.toNat:Int):=fun e=>hc (UInt8.toNat_inj.1 (by omega))
   rw [if_neg (by simpa using hne)]
   have:List.count b [s[k]'(by omega)]=0:=by rw [List.count_eq_zero];intro h;rw [List.mem_singleton] at h;exact hc h.symm
   omega
def cutL (s:Str) (b:UInt8):List Str:=(cutK s b s.length).1++[s.drop (cutK s b s.length).2]
theorem cutL_len (s:Str) (b:UInt8):(cutL s b).length=s.count b+1:=by
 unfold cutL
 rw [List.length_append,cutK_len s b s.length (Nat.le_refl _),List.take_length];rfl
theorem cutK_small (s:Str) (b:UInt8):∀ k,k≤s.length→(cutK s b k).1.length≤k:=fun k h=>by
 rw [cutK_len s b k h]
 exact Nat.le_trans List.count_le_length (by rw [List.length_take];omega)
end Go.Im
namespace Go.Im
open Go.Xp Go.Sp
open Classical in
noncomputable def prP (p:Src):Str:=if h:∃ l ls,fI p=true∧Stands p l∧Forms l ls then prT p h.choose_spec.choose else []
theorem Stands.uniq {p:Src} {l l':List T} (h:Stands p l) (h':Stands p l'):l=l':=by
 have h1:=h.bod
 rw [h'.bod] at h1
 exact ((Prod.mk.injEq _ _ _ _ ▸ Option.some.inj h1).1).symm
theorem prP_yes {p:Src} {l:List T} {ls:List (List S)} (hf:fI p=true) (h:Stands p l) (hm:Forms l ls):prP p=prT p ls:=by
 have hex:∃ l ls,fI p=true∧Stands p l∧Forms l ls:=⟨l,ls,hf,h,hm⟩
 unfold prP
 rw [dif_pos hex]
 obtain ⟨h1,h2,h3⟩:=hex.choose_spec.choose_spec
 have e:=h2.uniq h
 rw [←lay_pr h3,e,lay_pr hm]
theorem prP_no {p:Src} (hf:fI p=false):prP p=[]:=by
 unfold prP
 rw [dif_neg]
 rintro ⟨_,_,h,_⟩
 rw [hf] at h;cases h
theorem prP_len {p:Src} (hw:wSrc p≤1048576):(prP p).length≤200000000000:=by
 cases hf:fI p with
 | false=>rw [prP_no hf];simp
 | true =>
  obtain ⟨l,hl⟩:=fI_stands hf
  obtain ⟨ls,hm⟩:=hl.forms
  rw [prP_yes hf hl hm]
  exact prT_len hl hm hw
end Go.Im
