/- Part 2 of proofs that are told in their last texts. -/
import Derived.Test.YtaopilmekfecpaaGreatDoorZ1
set_option linter.unusedVariables false
set_option linter.unusedSimpArgs false
namespace Go.Xp
open Go.Sp (nameOk anySign)
inductive S where
 | set (s:Str) (a:E)
 | put (s:Str) (a b:E)
 | if1 (c:E) (b:List S)
 | if2 (c:E) (b b2:List S)
 | while_ (c:E) (b:List S)
 | ret (a:E)
 | do_ (a:E)
 | var (s:Str) (a:E)
mutual
def S.tk:S→List K
 | .set s a=>kN s::kS [61]::(a.tk++[kS [59]])
 | .put s a b=>kN s::kS [91]::(a.tk++kS [93]::kS [61]::(b.tk++[kS [59]]))
 | .if1 c b=>kS kwIf::kS [40]::(c.tk++kS [41]::kS [123]::(S.tks b++[kS [125]]))
 | .if2 c b b2=>kS kwIf::kS [40]::(c.tk++kS [41]::kS [123]::(S.tks b++kS [125]::kS kwElse::kS [123]::(S.tks b2++[kS [125]])))
 | .while_ c b=>kS kwWhile::kS [40]::(c.tk++kS [41]::kS [123]::(S.tks b++[kS [125]]))
 | .ret a=>kS kwReturn::(a.tk++[kS [59]])
 | .do_ a=>a.tk++[kS [59]]
 | .var s a=>kS kwVar::kN s::kS [61]::(a.tk++[kS [59]])
def S.tks:List S→List K
 | []=>[]
 | a::l=>a.tk++S.tks l
end
mutual
def S.tree:S→T
 | .set s a=>.mk ⟨7,0,0,s,[]⟩ [a.tree]
 | .put s a b=>.mk ⟨8,0,0,s,[]⟩ [a.tree,b.tree]
 | .if1 c b=>.mk ⟨9,0,0,[],[]⟩ [c.tree,.mk ⟨14,0,0,[],[]⟩ (S.trees b)]
 | .if2 c b b2=>.mk ⟨9,0,0,[],[]⟩ [c.tree,.mk ⟨14,0,0,[],[]⟩ (S.trees b),.mk ⟨14,0,0,[],[]⟩ (S.trees b2)]
 | .while_ c b=>.mk ⟨10,0,0,[],[]⟩ [c.tree,.mk ⟨14,0,0,[],[]⟩ (S.trees b)]
 | .ret a=>.mk ⟨11,0,0,[],[]⟩ [a.tree]
 | .do_ a=>.mk ⟨12,0,0,[],[]⟩ [a.tree]
 | .var s a=>.mk ⟨13,0,0,s,[]⟩ [a.tree]
def S.trees:List S→List T
 | []=>[]
 | a::l=>a.tree::S.trees l
end
def exf (a:E) (d:Nat):Bool:=decide (d≤60)&&a.fit (d+1)
mutual
def S.fit:S→Nat→Bool
 | .set _ a,d=>decide (d≤60)&&exf a (d+1)
 | .put s a b,d=>decide (d≤60)&&(exf (.at_ s a) (d+1)&&exf b (d+1))
 | .if1 c b,d=>decide (d≤60)&&(exf c (d+1)&&(decide (d+1≤60)&&S.fits b (d+2)))
 | .if2 c b b2,d=>decide (d≤60)&&(exf c (d+1)&&((decide (d+1≤60)&&S.fits b (d+2))&&(decide (d+1≤60)&&S.fits b2 (d+2))))
 | .while_ c b,d=>decide (d≤60)&&(exf c (d+1)&&(decide (d+1≤60)&&S.fits b (d+2)))
 | .ret a,d=>decide (d≤60)&&exf a (d+1)
 | .do_ a,d=>decide (d≤60)&&exf a (d+1)
 | .var _ a,d=>decide (d≤60)&&exf a (d+1)
def S.fits:List S→Nat→Bool
 | [],_=>true
 | a::l,d=>a.fit d&&S.fits l d
end
mutual
def S.ok:S→Bool
 | .set s a=>nameOk s&&a.ok
 | .put s a b=>nameOk s&&(a.ok&&b.ok)
 | .if1 c b=>c.ok&&S.oks b
 | .if2 c b b2=>c.ok&&(S.oks b&&S.oks b2)
 | .while_ c b=>c.ok&&S.oks b
 | .ret a=>a.ok
 | .do_ a=>a.ok
 | .var s a=>nameOk s&&a.ok
def S.oks:List S→Bool
 | []=>true
 | a::l=>a.ok&&S.oks l
end
def Es (e:Int) (j:SJob) (ts:List Tok) (x:Rd T):Prop:=∃ f0,∀ f,f0≤f→rs e f j ts=x
def Eb (e:Int) (d:Nat) (acc:List T) (ts:List Tok) (x:Rd (List T)):Prop:=∃ f0,∀ f,f0≤f→rs.body e f d acc ts=x
theorem Ev.ex {e:Int} {d:Nat} {ts:List Tok} {x:Rd T} (h:Ev e (.expr d) ts x):Go.Xp.expr e d ts=x:=by
 obtain ⟨f0,h0⟩:=h
 rw [←expr_at (e:=e) (d:=d) (ts:=ts) (f:=f0+(20 * ts.length+12)) (by omega)]
 exact h0 _ (by omega)
def Xx (e:Int) (d:Nat) (ts rest:List Tok) (Q:T→Prop) (b:Bool):Prop :=
 (b=true→∃ t,Q t∧expr e d ts=.ok (t,rest))∧(b=false→∃ pos,expr e d ts=.error (9,pos))
theorem Rx.xx {e:Int} {d:Nat} {ts rest:List Tok} {Q:T→Prop} {b:Bool} (h:Rx e d ts rest Q b):Xx e d ts rest Q b :=
 ⟨fun hb=>by obtain ⟨t,h1,h2⟩:=h.1 hb;exact ⟨t,h1,h2.ex⟩,fun hb=>by obtain ⟨pos,h1⟩:=h.2 hb;exact ⟨pos,h1.ex⟩⟩
theorem E.xx {a:E} {e:Int} {d:Nat} {ts rest:List Tok} {s:Str} (ho:a.ok=true) (ht:ts.map kf=a.tk) (hs:sign rest 0=s) (hs':s=[]∨s=[41]∨s=[93]∨s=[44]∨s=[59]∨s=[61]) :
  Xx e d (ts++rest) rest (fun t=>er t=a.tree) (exf a d):=((core a).rx ho ht hs hs').xx
def Sx (e:Int) (j:SJob) (ts rest:List Tok) (Q:T→Prop) (b:Bool):Prop :=
 (b=true→∃ t,Q t∧Es e j ts (.ok (t,rest)))∧(b=false→∃ pos,Es e j ts (.error (9,pos)))
section
variable {e:Int} {d:Nat} {ts rest:List Tok} {Q:T→Prop} {b:Bool}
theorem es0 {j:SJob} {x:Rd T} (hs:∀ f,rs e (f+1) j ts=x):Es e j ts x :=
 ⟨1,fun f hf=>by obtain ⟨f,rfl⟩:∃ g,f=g+1:=⟨f - 1,by omega⟩;exact hs f⟩
theorem sx_deep (h:d≤60→Sx e (.stmt d) ts rest Q b):Sx e (.stmt d) ts rest Q (decide (d≤60)&&b):=by
 by_cases hd:d≤60
 ·have:(decide (d≤60)&&b)=b:=by simp [hd]
  rw [this];exact h hd
 ·have:(decide (d≤60)&&b)=false:=by simp [hd]
  rw [this]
  exact ⟨fun hb=>(by cases hb),fun _=>⟨_,es0 fun f=>by rw [rs,if_pos (by omega)]⟩⟩
theorem must_ok' {u:Tok} {s:Str} (hu:u.kind=3) (hus:u.s=s):must e s (u::rest)=.ok rest:=by
 have hs:sign (u::rest) 0=s:=by simp only [sign,List.getElem?_cons_zero,signOf,hu,if_true,hus]
 unfold must;rw [if_pos hs];rfl
theorem sgn {u:Tok} {s:Str} (hu:u.kind=3) (hus:u.s=s):sign (u::rest) 0=s:=by simp only [sign,List.getElem?_cons_zero,signOf,hu,if_true,hus]
theorem inner_x {a:E} {u w:Tok} {A:List Tok} {sa sb:Str} (ho:a.ok=true) (ht:A.map kf=a.tk) (hu:u.kind=3) (hus:u.s=sa) (hw:w.kind=3) (hws:w.s=sb) (hsb:sb=[]∨sb=[41]∨sb=[93]∨sb=[44]∨sb=[59]∨sb=[61]) :
  (exf a d=true→∃ t,er t=a.tree∧inner e d sa sb (u::(A++w::rest))=.ok (t,rest))∧(exf a d=false→∃ pos,inner e d sa sb (u::(A++w::rest))=.error (9,pos)):=by
 have hx:=E.xx (e:=e) (d:=d) (rest:=w::rest) ho ht (sgn hw hws) hsb
 unfold inner
 rw [must_ok' hu hus]
 refine ⟨fun hb=>?_,fun hb=>?_⟩
 ·obtain ⟨t,h1,h2⟩:=hx.1 hb
  exact ⟨t,h1,by simp only;rw [h2];simp only;rw [must_ok' hw hws]⟩
 ·obtain ⟨pos,h1⟩:=hx.2 hb
  exact ⟨pos,by simp only;rw [h1]⟩
theorem setTo_x {a:E} {v u w:Tok} {A:List Tok} (ho:a.ok=true) (hv:v.kind=2) (hvl:v.s.length≤12) (ht:A.map kf=a.tk) (hu:u.kind=3) (hus:u.s=[61]) (hw:w.kind=3) (hws:w.s=[59]) :
  (exf a d=true→∃ t,er t=a.tree∧setTo e d (v::u::(A++w::rest))=.ok ((v.s,t),rest))∧(exf a d=false→∃ pos,setTo e d (v::u::(A++w::rest))=.error (9,pos)):=by
 have hi:=inner_x (e:=e) (d:=d) (rest:=rest) ho ht hu hus hw hws (by simp)
 unfold setTo
 rw [name_at hv hvl]
 refine ⟨fun hb=>?_,fun hb=>?_⟩
 ·obtain ⟨t,h1,h2⟩:=hi.1 hb
  exact ⟨t,h1,by simp only;rw [h2]⟩
 ·obtain ⟨pos,h1⟩:=hi.2 hb
  exact ⟨pos,by simp only;rw [h1]⟩
theorem sign_0nk {t:Tok} {s:Str} (h:t.kind=2) (hs:s≠[]):sign (t::rest) 0≠s:=by rw [sign_nk (by omega)];exact fun h=>hs h.symm
def CoreS (s:S):Prop:=∀ (e:Int) (d:Nat) (ts rest:List Tok),s.ok=true→ts.map kf=s.tk→sign rest 0≠kwElse→Sx e (.stmt d) (ts++rest) rest (fun t=>er t=s.tree) (s.fit d)
theorem core_set (s:Str) (a:E):CoreS (.set s a):=by
 intro e d ts rest ho ht _
 simp only [S.ok,Bool.and_eq_true] at ho
 rw [S.tk] at ht
 obtain ⟨t,r,rfl,h1,h2⟩:=map_cons ht
 obtain ⟨u,r,rfl,h3,h4⟩:=map_cons h2
 obtain ⟨A,B,rfl,h5,h6⟩:=map_app h4
 obtain ⟨w,rfl,h7⟩:=map_one h6
 obtain ⟨h1,h1'⟩:=kf_n h1
 obtain ⟨h3,h3'⟩:=kf_s h3
 obtain ⟨h7,h7'⟩:=kf_s h7
 have he:t::u::(A++[w])++rest=t::u::(A++w::rest):=by simp
 have hx:=setTo_x (e:=e) (d:=d+1) (rest:=rest) ho.2 h1 (by rw [h1'];exact nameOk_len ho.1) h5 h3 h3' h7 h7'
 rw [he,S.fit]
 have hset:t.kind=2∧sign (t::u::(A++w::rest)) 1=[61]:=⟨h1,by simp only [sign,List.getElem?_cons_succ,List.getElem?_cons_zero,signOf,h3,if_true,h3']⟩
 refine sx_deep fun hd=>⟨fun hb=>?_,fun hb=>?_⟩
 ·obtain ⟨t',k1,k2⟩:=hx.1 hb
  refine ⟨one 7 t.at_ t.s [t'],by show er _=_;rw [er_one,ers,k1,h1',S.tree];rfl,es0 fun f=>?_⟩
  rw [rs,if_neg (by omega)];simp only
  rw [if_neg (sign_0nk h1 (by decide)),if_neg (fun h=>h.elim (sign_0nk h1 (by decide)) (sign_0nk h1 (by decide))),if_neg (sign_0nk h1 (by decide))]
  simp only [simple];rw [if_pos hset,k2]
 ·obtain ⟨pos,k1⟩:=hx.2 hb
  refine ⟨pos,es0 fun f=>?_⟩
  rw [rs,if_neg (by omega)];simp only
  rw [if_neg (sign_0nk h1 (by decide)),if_neg (fun h=>h.elim (sign_0nk h1 (by decide)) (sign_0nk h1 (by decide))),if_neg (sign_0nk h1 (by decide))]
  simp only [simple];rw [if_pos hset,k1]
theorem core_var (s:Str) (a:E):CoreS (.var s a):=by
 intro e d ts rest ho ht _
 simp only [S.ok,Bool.and_eq_true] at ho
 rw [S.tk] at ht
 obtain ⟨v,r,rfl,h0,ht⟩:=map_cons ht
 obtain ⟨t,r,rfl,h1,h2⟩:=map_cons ht
 obtain ⟨u,r,rfl,h3,h4⟩:=map_cons h2
 obtain ⟨A,B,rfl,h5,h6⟩:=map_app h4
 obtain ⟨w,rfl,h7⟩:=map_one h6
 obtain ⟨h0,h0'⟩:=kf_s h0
 obtain ⟨h1,h1'⟩:=kf_n h1
 obtain ⟨h3,h3'⟩:=kf_s h3
 obtain ⟨h7,h7'⟩:=kf_s h7
 have he:v::t::u::(A++[w])++rest=v::t::u::(A++w::rest):=by simp
 have hx:=setTo_x (e:=e) (d:=d+1) (rest:=rest) ho.2 h1 (by rw [h1'];exact nameOk_len ho.1) h5 h3 h3' h7 h7'
 rw [he,S.fit]
 refine sx_deep fun hd=>⟨fun hb=>?_,fun hb=>?_⟩
 ·obtain ⟨t',k1,k2⟩:=hx.1 hb
  refine ⟨one 13 v.at_ t.s [t'],by show er _=_;rw [er_one,ers,k1,h1',S.tree];rfl,es0 fun f=>?_⟩
  rw [rs,if_neg (by omega)];simp only
  rw [if_pos (sgn h0 h0'),List.tail_cons,k2];rfl
 ·obtain ⟨pos,k1⟩:=hx.2 hb
  refine ⟨pos,es0 fun f=>?_⟩
  rw [rs,if_neg (by omega)];simp only
  rw [if_pos (sgn h0 h0'),List.tail_cons,k1]
theorem core_ret (a:E):CoreS (.ret a):=by
 intro e d ts rest ho ht _
 simp only [S.ok] at ho
 rw [S.tk] at ht
 obtain ⟨v,r,rfl,h0,h4⟩:=map_cons ht
 obtain ⟨A,B,rfl,h5,h6⟩:=map_app h4
 obtain ⟨w,rfl,h7⟩:=map_one h6
 obtain ⟨h0,h0'⟩:=kf_s h0
 obtain ⟨h7,h7'⟩:=kf_s h7
 have he:v::(A++[w])++rest=v::(A++w::rest):=by simp
 have hx:=E.xx (e:=e) (d:=d+1) (rest:=w::rest) ho h5 (sgn h7 h7') (by simp)
 rw [he,S.fit]
 have hs:=sgn (rest:=A++w::rest) h0 h0'
 refine sx_deep fun hd=>⟨fun hb=>?_,fun hb=>?_⟩
 ·obtain ⟨t',k1,k2⟩:=hx.1 hb
  refine ⟨one 11 v.at_ [] [t'],by show er _=_;rw [er_one,ers,k1,S.tree];rfl,es0 fun f=>?_⟩
  rw [rs,if_neg (by omega)];simp only
  rw [if_neg (by rw [hs];decide),if_neg (by rw [hs];decide),if_pos hs,List.tail_cons,k2];simp only
  rw [must_ok' h7 h7'];rfl
 ·obtain ⟨pos,k1⟩:=hx.2 hb
  refine ⟨pos,es0 fun f=>?_⟩
  rw [rs,if_neg (by omega)];simp only
  rw [if_neg (by rw [hs];decide),if_neg (by rw [hs];decide),if_pos hs,List.tail_cons,k1]
def noEq (l:List K):Prop:=∀ k∈l,k.1=3→k.2.2≠[61]
theorem noEq_app {l l':List K}:noEq (l++l')↔noEq l∧noEq l':=by
 unfold noEq
 constructor
 ·intro h;exact ⟨fun k hk=>h k (List.mem_append_left _ hk),fun k hk=>h k (List.mem_append_right _ hk)⟩
 ·rintro ⟨h1,h2⟩ k hk;rcases List.mem_append.1 hk with hk | hk
  ·exact h1 k hk
  ·exact h2 k hk
theorem noEq_cons {a:K} {l:List K}:noEq (a::l)↔(a.1=3→a.2.2≠[61])∧noEq l:=by
 unfold noEq
 simp only [List.mem_cons,forall_eq_or_imp]
theorem noEq_nil:noEq []:=fun k hk=>by cases hk
theorem no_eq_brk {lv k:Nat} {x:List K} (h:noEq x):noEq (brk lv k x):=by
 unfold brk
 split
 ·rw [noEq_cons,noEq_app,noEq_cons];exact ⟨fun _=>by decide,h,fun _=>by decide,noEq_nil⟩
 ·exact h
mutual
theorem E.no_eq:∀ (a:E),a.ok=true→noEq a.tk
 | .num n,_=>by rw [E.tk,noEq_cons];exact ⟨fun h=>(by cases h),noEq_nil⟩
 | .name s,_=>by rw [E.tk,noEq_cons];exact ⟨fun h=>(by cases h),noEq_nil⟩
 | .at_ s a,h=>by
  simp only [E.ok,Bool.and_eq_true] at h
  rw [E.tk,noEq_cons,noEq_cons,noEq_app,noEq_cons]
  exact ⟨fun h=>(by cases h),fun _=>(by decide),E.no_eq a h.2,fun _=>(by decide),noEq_nil⟩
 | .call s l,h=>by
  simp only [E.ok,Bool.and_eq_true] at h
  rw [E.tk,noEq_cons,noEq_cons,noEq_app,noEq_cons]
  exact ⟨fun h=>(by cases h),fun _=>(by decide),(E.no_eqs l h.2).1,fun _=>(by decide),noEq_nil⟩
 | .un s a,h=>by
  simp only [E.ok,Bool.and_eq_true,Bool.or_eq_true,beq_iff_eq] at h
  rw [E.tk,noEq_cons]
  exact ⟨fun _=>(by rcases h.1 with (h | h) | h <;> (simp only [kS,h];decide)),no_eq_brk (E.no_eq a h.2)⟩
 | .bin s a b,h=>by
  simp only [E.ok,Bool.and_eq_true] at h
  rw [E.tk,noEq_app,noEq_cons]
  exact ⟨no_eq_brk (E.no_eq a h.1.2),fun _ h0=>(by simp only [kS] at h0;rw [h0] at h;exact absurd h.1.1 (by decide)),no_eq_brk (E.no_eq b h.2)⟩
theorem E.no_eqs:∀ (l:List E),E.oks l=true→noEq (E.tks l)∧noEq (E.tksC l)
 | [],_=>by rw [E.tks,E.tksC];exact ⟨noEq_nil,noEq_nil⟩
 | a::l,h=>by
  simp only [E.oks,Bool.and_eq_true] at h
  have h1:=E.no_eq a h.1
  have h2:=E.no_eqs l h.2
  rw [E.tks,E.tksC,noEq_app,noEq_cons,noEq_app]
  exact ⟨⟨h1,h2.2⟩,fun _=>(by decide),h1,h2.2⟩
end
theorem sign_ne_of {ts:List Tok} {k:Nat} {s:Str} (h:∀ t,ts[k]?=some t→t.kind=3→t.s≠s) (hs:s≠[]):sign ts k≠s:=by
 unfold sign
 cases hk:ts[k]? with
 | none=>exact fun h=>hs h.symm
 | some t =>
  simp only [signOf]
  split
  ·rename_i h3;exact h t hk h3
  ·exact fun h=>hs h.symm
theorem expr_no_set {a:E} {A:List Tok} {w:Tok} (ho:a.ok=true) (h5:A.map kf=a.tk) (hw:w.s≠[61]):sign (A++w::rest) 1≠[61]:=by
 obtain ⟨k0,r0,hh,_⟩:=E.head a ho
 refine sign_ne_of (fun t ht h3 hts=>?_) (by decide)
 have hlen:1≤A.length:=by
  have:=congrArg List.length h5
  rw [hh] at this;simp at this;omega
 rw [List.getElem?_append] at ht
 split at ht
 ·have hm:kf t∈a.tk:=by rw [←h5];exact List.mem_map_of_mem (List.mem_of_getElem? ht)
  exact E.no_eq a ho _ hm h3 hts
 ·have:1 - A.length=0:=by omega
  rw [this] at ht;cases ht;exact hw hts
theorem core_do (a:E):CoreS (.do_ a):=by
 intro e d ts rest ho ht _
 simp only [S.ok] at ho
 rw [S.tk] at ht
 obtain ⟨A,B,rfl,h5,h6⟩:=map_app ht
 obtain ⟨w,rfl,h7⟩:=map_one h6
 obtain ⟨h7,h7'⟩:=kf_s h7
 have he:A++[w]++rest=A++w::rest:=by simp
 have hx:=E.xx (e:=e) (d:=d+1) (rest:=w::rest) ho h5 (sgn h7 h7') (by simp)
 have hns:=expr_no_set (rest:=rest) (w:=w) ho h5 (by rw [h7'];decide)
 obtain ⟨k0,r0,hh,hf⟩:=E.head a ho
 obtain ⟨t,r,rfl,h8,_⟩:=map_cons (by rw [←hh];exact h5)
 rw [he,S.fit]
 rw [List.cons_append] at hx hns ⊢
 have hfs:=fst_sign (r:=r++w::rest) (by rw [h8];exact hf)
 have hset:¬ (t.kind=2∧sign (t::(r++w::rest)) 1=[61]):=fun h=>hns h.2
 have hno:∀ s:Str,s=kwVar∨s=kwIf∨s=kwWhile∨s=kwReturn→sign (t::(r++w::rest)) 0≠s:=by
  intro s hs;rcases hfs with h | h | h | h | h <;> rcases hs with rfl | rfl | rfl | rfl <;> (rw [h];decide)
 refine sx_deep fun hd=>⟨fun hb=>?_,fun hb=>?_⟩
 ·obtain ⟨t',k1,k2⟩:=hx.1 hb
  refine ⟨one 12 t.at_ [] [t'],by show er _=_;rw [er_one,ers,k1,S.tree];rfl,es0 fun f=>?_⟩
  rw [rs,if_neg (by omega)];simp only
  rw [if_neg (hno _ (by simp)),if_neg (fun h=>h.elim (hno _ (by simp)) (hno _ (by simp))),if_neg (hno _ (by simp))]
  simp only [simple];rw [if_neg hset,k2];simp only
  rw [if_neg (fun h=>by have:=h.2.2;rw [sgn h7 h7'] at this;revert this;decide),must_ok' h7 h7']
 ·obtain ⟨pos,k1⟩:=hx.2 hb
  refine ⟨pos,es0 fun f=>?_⟩
  rw [rs,if_neg (by omega)];simp only
  rw [if_neg (hno _ (by simp)),if_neg (fun h=>h.elim (hno _ (by simp)) (hno _ (by simp))),if_neg (hno _ (by simp))]
  simp only [simple];rw [if_neg hset,k1]
theorem at_x {s:Str} {a:E} {t u w:Tok} {A:List Tok} {sg:Str} (hn:nameOk s=true) (ho:a.ok=true) (h1:t.kind=2) (h1':t.s=s) (h3:u.kind=3) (h3':u.s=[91]) (h5:A.map kf=a.tk) (h7:w.kind=3) (h7':w.s=[93]) (hs:sign rest 0=sg) (hs':sg=[]∨sg=[41]∨sg=[93]∨sg=[44]∨sg=[59]∨sg=[61]) :
  Xx e d (t::u::(A++w::rest)) rest (fun x=>er x=(E.at_ s a).tree∧x.n.kind=3∧x.n.at_=t.at_∧x.n.s=s∧∃ y,x.kids=[y]∧er y=a.tree) (exf (.at_ s a) d):=by
 have hl:t.s.length≤12:=by rw [h1'];exact nameOk_len hn
 have hx:=(core a).rx (e:=e) (d:=d+1+1) (rest:=w::rest) (s:=[93]) ho h5 (sgn h7 h7') (by simp)
 have hro:Ro e (d+1) (t::u::(A++w::rest)) rest (fun x=>er x=(E.at_ s a).tree∧x.n.kind=3∧x.n.at_=t.at_∧x.n.s=s∧∃ y,x.kids=[y]∧er y=a.tree) ((E.at_ s a).fit (d+1)):=by
  rw [E.fit,Bool.and_assoc]
  refine ro_deep fun hd=>⟨fun hb=>?_,fun hb=>?_⟩
  ·obtain ⟨t',k1,k2⟩:=hx.1 hb
   exact ⟨one 3 t.at_ t.s [t'],⟨by rw [er_one,ers,k1,h1',E.tree];rfl,rfl,rfl,h1',_,rfl,k1⟩,Ev.ix hd h1 hl h3 h3' h7 h7' k2⟩
  ·obtain ⟨pos,k1⟩:=hx.2 hb
   exact ⟨pos,Ev.ixX hd h1 hl h3 h3' k1⟩
 exact ((hro.rt (Nat.zero_le 9) (stop_sign hs hs')).rx (stop_sign0 hs hs')).xx
theorem core_put (s:Str) (a b:E):CoreS (.put s a b):=by
 intro e d ts rest ho ht _
 simp only [S.ok,Bool.and_eq_true] at ho
 rw [S.tk] at ht
 obtain ⟨t,r,rfl,h1,h2⟩:=map_cons ht
 obtain ⟨u,r,rfl,h3,h4⟩:=map_cons h2
 obtain ⟨A,B,rfl,h5,h6⟩:=map_app h4
 obtain ⟨w,r,rfl,h7,h8⟩:=map_cons h6
 obtain ⟨q,r,rfl,h9,h10⟩:=map_cons h8
 obtain ⟨B,C,rfl,h11,h12⟩:=map_app h10
 obtain ⟨z,rfl,h13⟩:=map_one h12
 obtain ⟨h1,h1'⟩:=kf_n h1
 obtain ⟨h3,h3'⟩:=kf_s h3
 obtain ⟨h7,h7'⟩:=kf_s h7
 obtain ⟨h9,h9'⟩:=kf_s h9
 obtain ⟨h13,h13'⟩:=kf_s h13
 have he:t::u::(A++w::q::(B++[z]))++rest=t::u::(A++w::(q::(B++z::rest))):=by simp
 have hsq:=sgn (rest:=B++z::rest) h9 h9'
 have hx:=at_x (e:=e) (d:=d+1) (rest:=q::(B++z::rest)) ho.1 ho.2.1 h1 h1' h3 h3' h5 h7 h7' hsq (by simp)
 have hv:=inner_x (e:=e) (d:=d+1) (rest:=rest) ho.2.2 h11 h9 h9' h13 h13' (by simp)
 rw [he,S.fit]
 have hset:¬ (t.kind=2∧sign (t::u::(A++w::(q::(B++z::rest)))) 1=[61]):=fun h=>by
  have:=h.2
  simp only [sign,List.getElem?_cons_succ,List.getElem?_cons_zero,signOf,h3,if_true,h3'] at this
  revert this;decide
 have hno:∀ s:Str,s≠[]→sign (t::u::(A++w::(q::(B++z::rest)))) 0≠s:=fun s hs=>sign_0nk h1 hs
 refine sx_deep fun hd=>?_
 cases hfa:exf (.at_ s a) (d+1) with
 | false =>
  refine ⟨fun hb=>(by cases hb),fun _=>?_⟩
  obtain ⟨pos,k1⟩:=hx.2 hfa
  refine ⟨pos,es0 fun f=>?_⟩
  rw [rs,if_neg (by omega)];simp only
  rw [if_neg (hno _ (by decide)),if_neg (fun h=>h.elim (hno _ (by decide)) (hno _ (by decide))),if_neg (hno _ (by decide))]
  simp only [simple];rw [if_neg hset,k1]
 | true =>
  obtain ⟨x,⟨_,k1,k2,k3,y,k4,k5⟩,k6⟩:=hx.1 hfa
  refine ⟨fun hb=>?_,fun hb=>?_⟩
  ·obtain ⟨v,k7,k8⟩:=hv.1 (by simpa using hb)
   refine ⟨one 8 t.at_ s [y,v],by show er _=_;rw [er_one,ers,ers,k5,k7,S.tree];rfl,es0 fun f=>?_⟩
   rw [rs,if_neg (by omega)];simp only
   rw [if_neg (hno _ (by decide)),if_neg (fun h=>h.elim (hno _ (by decide)) (hno _ (by decide))),if_neg (hno _ (by decide))]
   simp only [simple];rw [if_neg hset,k6];simp only
   rw [if_pos ⟨k1,k2,hsq⟩,k8];simp only
   rw [k3,k4];rfl
  ·obtain ⟨pos,k7⟩:=hv.2 (by simpa using hb)
   refine ⟨pos,es0 fun f=>?_⟩
   rw [rs,if_neg (by omega)];simp only
   rw [if_neg (hno _ (by decide)),if_neg (fun h=>h.elim (hno _ (by decide)) (hno _ (by decide))),if_neg (hno _ (by decide))]
   simp only [simple];rw [if_neg hset,k6];simp only
   rw [if_pos ⟨k1,k2,hsq⟩,k7]
end
end Go.Xp
namespace Go.Xp
open Go.Sp (nameOk anySign)
section
variable {e:Int} {d:Nat} {ts rest:List Tok} {Q:T→Prop} {b:Bool}
theorem S.head {s:S} (ho:s.ok=true) (ht:ts.map kf=s.tk):∃ t r,ts=t::r∧∀ rest,sign (t::rest) 0≠kwElse∧sign (t::rest) 0≠[125]:=by
 cases s with
 | set s a =>
  rw [S.tk] at ht;obtain ⟨t,r,rfl,h1,_⟩:=map_cons ht;obtain ⟨h1,_⟩:=kf_n h1
  exact ⟨t,r,rfl,fun rest=>⟨sign_0nk h1 (by decide),sign_0nk h1 (by decide)⟩⟩
 | put s a b =>
  rw [S.tk] at ht;obtain ⟨t,r,rfl,h1,_⟩:=map_cons ht;obtain ⟨h1,_⟩:=kf_n h1
  exact ⟨t,r,rfl,fun rest=>⟨sign_0nk h1 (by decide),sign_0nk h1 (by decide)⟩⟩
 | if1 c b =>
  rw [S.tk] at ht;obtain ⟨t,r,rfl,h1,_⟩:=map_cons ht
  exact ⟨t,r,rfl,fun rest=>by rw [sign_kf h1];decide⟩
 | if2 c b b2 =>
  rw [S.tk] at ht;obtain ⟨t,r,rfl,h1,_⟩:=map_cons ht
  exact ⟨t,r,rfl,fun rest=>by rw [sign_kf h1];decide⟩
 | while_ c b =>
  rw [S.tk] at ht;obtain ⟨t,r,rfl,h1,_⟩:=map_cons ht
  exact ⟨t,r,rfl,fun rest=>by rw [sign_kf h1];decide⟩
 | ret a =>
  rw [S.tk] at ht;obtain ⟨t,r,rfl,h1,_⟩:=map_cons ht
  exact ⟨t,r,rfl,fun rest=>by rw [sign_kf h1];decide⟩
 | var s a =>
  rw [S.tk] at ht;obtain ⟨t,r,rfl,h1,_⟩:=map_cons ht
  exact ⟨t,r,rfl,fun rest=>by rw [sign_kf h1];decide⟩
 | do_ a =>
  simp only [S.ok] at ho
  obtain ⟨k0,r0,hh,hf⟩:=E.head a ho
  rw [S.tk,hh] at ht;obtain ⟨t,r,rfl,h1,_⟩:=map_cons ht
  refine ⟨t,r,rfl,fun rest=>?_⟩
  rcases fst_sign (r:=rest) (by rw [h1];exact hf) with h | h | h | h | h <;> (rw [h];decide)
def CoreB (l:List S):Prop:=∀ (e:Int) (d:Nat) (acc:List T) (ts rest:List Tok) (u:Tok),S.oks l=true→ts.map kf=S.tks l→u.kind=3→u.s=[125] →
 (S.fits l d=true→∃ ys,ers ys=S.trees l∧Eb e d acc (ts++u::rest) (.ok (acc++ys,rest)))∧(S.fits l d=false→∃ pos,Eb e d acc (ts++u::rest) (.error (9,pos)))
theorem coreB_nil:CoreB []:=by
 intro e d acc ts rest u _ ht hu hus
 have:ts=[]:=by simpa [S.tks] using ht
 subst this
 refine ⟨fun _=>⟨[],rfl,1,fun f hf=>?_⟩,fun h=>by simp [S.fits] at h⟩
 obtain ⟨f,rfl⟩:∃ g,f=g+1:=⟨f - 1,by omega⟩
 rw [rs.body,if_pos (by exact sgn hu hus),List.append_nil];rfl
theorem coreB_cons {a:S} {l:List S} (Ca:CoreS a) (Cl:CoreB l):CoreB (a::l):=by
 intro e d acc ts rest u ho ht hu hus
 simp only [S.oks,Bool.and_eq_true] at ho
 rw [S.tks] at ht
 obtain ⟨A,B,rfl,h3,h4⟩:=map_app ht
 obtain ⟨t,r,rfl,hh⟩:=S.head ho.1 h3
 have hne:sign (B++u::rest) 0≠kwElse:=by
  cases l with
  | nil =>
   have:B=[]:=by simpa [S.tks] using h4
   subst this
   rw [List.nil_append,sgn hu hus];decide
  | cons a' l' =>
   simp only [S.oks,Bool.and_eq_true] at ho
   rw [S.tks] at h4
   obtain ⟨A',B',rfl,h5,h6⟩:=map_app h4
   obtain ⟨t',r',rfl,hh'⟩:=S.head ho.2.1 h5
   exact (hh' _).1
 have hx:=Ca e d (t::r) (B++u::rest) ho.1 h3 hne
 have he:t::r++B++u::rest=t::r++(B++u::rest):=by simp
 have hs:sign (t::r++(B++u::rest)) 0≠[125]:=(hh _).2
 rw [he,S.fits]
 cases hfa:a.fit d with
 | false =>
  refine ⟨fun hb=>(by simp at hb),fun _=>?_⟩
  obtain ⟨pos,f0,h0⟩:=hx.2 hfa
  refine ⟨pos,f0+1,fun f hf=>?_⟩
  obtain ⟨f,rfl⟩:∃ g,f=g+1:=⟨f - 1,by omega⟩
  rw [rs.body,if_neg hs,h0 f (by omega)]
 | true =>
  obtain ⟨ta,k1,f0,h0⟩:=hx.1 hfa
  have hl:=Cl e d (acc++[ta]) B rest u ho.2 h4 hu hus
  refine ⟨fun hb=>?_,fun hb=>?_⟩
  ·obtain ⟨ys,k3,f1,k4⟩:=hl.1 (by simpa using hb)
   refine ⟨ta::ys,by rw [ers,k1,k3,S.trees],f0+f1+1,fun f hf=>?_⟩
   obtain ⟨f,rfl⟩:∃ g,f=g+1:=⟨f - 1,by omega⟩
   rw [rs.body,if_neg hs,h0 f (by omega)];simp only
   rw [k4 f (by omega),List.append_assoc];rfl
  ·obtain ⟨pos,f1,k3⟩:=hl.2 (by simpa using hb)
   refine ⟨pos,f0+f1+1,fun f hf=>?_⟩
   obtain ⟨f,rfl⟩:∃ g,f=g+1:=⟨f - 1,by omega⟩
   rw [rs.body,if_neg hs,h0 f (by omega)];exact k3 f (by omega)
theorem CoreB.blk {l:List S} (C:CoreB l) {A:List Tok} {u w:Tok} (ho:S.oks l=true) (ht:A.map kf=S.tks l) (hu:u.kind=3) (hus:u.s=[123]) (hw:w.kind=3) (hws:w.s=[125]) :
  Sx e (.block d) (u::(A++w::rest)) rest (fun t=>er t=.mk ⟨14,0,0,[],[]⟩ (S.trees l)) (decide (d≤60)&&S.fits l (d+1)):=by
 have hb:=C e (d+1) [] A rest w ho ht hw hws
 by_cases hd:d≤60
 ·have:(decide (d≤60)&&S.fits l (d+1))=S.fits l (d+1):=by simp [hd]
  rw [this]
  refine ⟨fun h=>?_,fun h=>?_⟩
  ·obtain ⟨ys,k1,f0,h0⟩:=hb.1 h
   refine ⟨one 14 u.at_ [] ys,by show er _=_;rw [er_one,k1],f0+1,fun f hf=>?_⟩
   obtain ⟨f,rfl⟩:∃ g,f=g+1:=⟨f - 1,by omega⟩
   rw [rs,if_neg (by omega),must_ok' hu hus];simp only
   rw [h0 f (by omega)];rfl
  ·obtain ⟨pos,f0,h0⟩:=hb.2 h
   refine ⟨pos,f0+1,fun f hf=>?_⟩
   obtain ⟨f,rfl⟩:∃ g,f=g+1:=⟨f - 1,by omega⟩
   rw [rs,if_neg (by omega),must_ok' hu hus];simp only
   rw [h0 f (by omega)]
 ·have:(decide (d≤60)&&S.fits l (d+1))=false:=by simp [hd]
  rw [this]
  exact ⟨fun hb=>(by cases hb),fun _=>⟨_,es0 fun f=>by rw [rs,if_pos (by omega)]⟩⟩
theorem es_and {j:SJob} {x:Rd T} {ts':List Tok} {j':SJob} {x':Rd T} (h:Es e j ts x) (hs:∀ f,rs e f j ts=x→rs e (f+1) j' ts'=x'):Es e j' ts' x':=by
 obtain ⟨f0,h0⟩:=h
 refine ⟨f0+1,fun f hf=>?_⟩
 obtain ⟨f,rfl⟩:∃ g,f=g+1:=⟨f - 1,by omega⟩
 exact hs f (h0 f (by omega))
theorem es_and2 {j j2:SJob} {x x2:Rd T} {ts' ts2:List Tok} {j':SJob} {x':Rd T} (h:Es e j ts x) (h2:Es e j2 ts2 x2) (hs:∀ f,rs e f j ts=x→rs e f j2 ts2=x2→rs e (f+1) j' ts'=x'):Es e j' ts' x':=by
 obtain ⟨f0,h0⟩:=h
 obtain ⟨f1,h1⟩:=h2
 refine ⟨f0+f1+1,fun f hf=>?_⟩
 obtain ⟨f,rfl⟩:∃ g,f=g+1:=⟨f - 1,by omega⟩
 exact hs f (h0 f (by omega)) (h1 f (by omega))
theorem core_if1 (c:E) {l:List S} (C:CoreB l):CoreS (.if1 c l):=by
 intro e d ts rest ho ht hel
 simp only [S.ok,Bool.and_eq_true] at ho
 rw [S.tk] at ht
 obtain ⟨v,r,rfl,h1,h2⟩:=map_cons ht
 obtain ⟨u,r,rfl,h3,h4⟩:=map_cons h2
 obtain ⟨A,r,rfl,h5,h6⟩:=map_app h4
 obtain ⟨w,r,rfl,h7,h8⟩:=map_cons h6
 obtain ⟨x,r,rfl,h9,h10⟩:=map_cons h8
 obtain ⟨B,r,rfl,h11,h12⟩:=map_app h10
 obtain ⟨y,rfl,h13⟩:=map_one h12
 obtain ⟨h1,h1'⟩:=kf_s h1
 obtain ⟨h3,h3'⟩:=kf_s h3
 obtain ⟨h7,h7'⟩:=kf_s h7
 obtain ⟨h9,h9'⟩:=kf_s h9
 obtain ⟨h13,h13'⟩:=kf_s h13
 have he:v::u::(A++w::x::(B++[y]))++rest=v::u::(A++w::(x::(B++y::rest))):=by simp
 have hi:=inner_x (e:=e) (d:=d+1) (rest:=x::(B++y::rest)) ho.1 h5 h3 h3' h7 h7' (by simp)
 have hb:=C.blk (e:=e) (d:=d+1) (rest:=rest) ho.2 h11 h9 h9' h13 h13'
 have hv:=sgn (rest:=u::(A++w::(x::(B++y::rest)))) h1 h1'
 rw [he,S.fit]
 refine sx_deep fun hd=>?_
 cases hfa:exf c (d+1) with
 | false =>
  refine ⟨fun hb=>(by simp at hb),fun _=>?_⟩
  obtain ⟨pos,k1⟩:=hi.2 hfa
  refine ⟨pos,es0 fun f=>?_⟩
  rw [rs,if_neg (by omega)];simp only
  rw [if_neg (by rw [hv];decide),if_pos (.inl hv),List.tail_cons,k1]
 | true =>
  obtain ⟨tc,k1,k2⟩:=hi.1 hfa
  rw [Bool.true_and]
  refine ⟨fun h=>?_,fun h=>?_⟩
  ·obtain ⟨tb,k3,k4⟩:=hb.1 h
   refine ⟨one 9 v.at_ [] [tc,tb],by show er _=_;rw [er_one,ers,ers,k1,k3,S.tree];rfl,es_and k4 fun f k4=>?_⟩
   rw [rs,if_neg (by omega)];simp only
   rw [if_neg (by rw [hv];decide),if_pos (.inl hv),List.tail_cons,k2];simp only
   rw [k4];simp only
   rw [if_pos hv,if_neg hel];rfl
  ·obtain ⟨pos,k3⟩:=hb.2 h
   refine ⟨pos,es_and k3 fun f k3=>?_⟩
   rw [rs,if_neg (by omega)];simp only
   rw [if_neg (by rw [hv];decide),if_pos (.inl hv),List.tail_cons,k2];simp only
   rw [k3]
theorem core_while (c:E) {l:List S} (C:CoreB l):CoreS (.while_ c l):=by
 intro e d ts rest ho ht hel
 simp only [S.ok,Bool.and_eq_true] at ho
 rw [S.tk] at ht
 obtain ⟨v,r,rfl,h1,h2⟩:=map_cons ht
 obtain ⟨u,r,rfl,h3,h4⟩:=map_cons h2
 obtain ⟨A,r,rfl,h5,h6⟩:=map_app h4
 obtain ⟨w,r,rfl,h7,h8⟩:=map_cons h6
 obtain ⟨x,r,rfl,h9,h10⟩:=map_cons h8
 obtain ⟨B,r,rfl,h11,h12⟩:=map_app h10
 obtain ⟨y,rfl,h13⟩:=map_one h12
 obtain ⟨h1,h1'⟩:=kf_s h1
 obtain ⟨h3,h3'⟩:=kf_s h3
 obtain ⟨h7,h7'⟩:=kf_s h7
 obtain ⟨h9,h9'⟩:=kf_s h9
 obtain ⟨h13,h13'⟩:=kf_s h13
 have he:v::u::(A++w::x::(B++[y]))++rest=v::u::(A++w::(x::(B++y::rest))):=by simp
 have hi:=inner_x (e:=e) (d:=d+1) (rest:=x::(B++y::rest)) ho.1 h5 h3 h3' h7 h7' (by simp)
 have hb:=C.blk (e:=e) (d:=d+1) (rest:=rest) ho.2 h11 h9 h9' h13 h13'
 have hv:=sgn (rest:=u::(A++w::(x::(B++y::rest)))) h1 h1'
 rw [he,S.fit]
 refine sx_deep fun hd=>?_
 cases hfa:exf c (d+1) with
 | false =>
  refine ⟨fun hb=>(by simp at hb),fun _=>?_⟩
  obtain ⟨pos,k1⟩:=hi.2 hfa
  refine ⟨pos,es0 fun f=>?_⟩
  rw [rs,if_neg (by omega)];simp only
  rw [if_neg (by rw [hv];decide),if_pos (.inr hv),List.tail_cons,k1]
 | true =>
  obtain ⟨tc,k1,k2⟩:=hi.1 hfa
  rw [Bool.true_and]
  refine ⟨fun h=>?_,fun h=>?_⟩
  ·obtain ⟨tb,k3,k4⟩:=hb.1 h
   refine ⟨one 10 v.at_ [] [tc,tb],by show er _=_;rw [er_one,ers,ers,k1,k3,S.tree];rfl,es_and k4 fun f k4=>?_⟩
   rw [rs,if_neg (by omega)];simp only
   rw [if_neg (by rw [hv];decide),if_pos (.inr hv),List.tail_cons,k2];simp only
   rw [k4];simp only
   rw [if_neg (by rw [hv];decide)];rfl
  ·obtain ⟨pos,k3⟩:=hb.2 h
   refine ⟨pos,es_and k3 fun f k3=>?_⟩
   rw [rs,if_neg (by omega)];simp only
   rw [if_neg (by rw [hv];decide),if_pos (.inr hv),List.tail_cons,k2];simp only
   rw [k3]
theorem core_if2 (c:E) {l l2:List S} (C:CoreB l) (C2:CoreB l2):CoreS (.if2 c l l2):=by
 intro e d ts rest ho ht hel
 simp only [S.ok,Bool.and_eq_true] at ho
 rw [S.tk] at ht
 obtain ⟨v,r,rfl,h1,h2⟩:=map_cons ht
 obtain ⟨u,r,rfl,h3,h4⟩:=map_cons h2
 obtain ⟨A,r,rfl,h5,h6⟩:=map_app h4
 obtain ⟨w,r,rfl,h7,h8⟩:=map_cons h6
 obtain ⟨x,r,rfl,h9,h10⟩:=map_cons h8
 obtain ⟨B,r,rfl,h11,h12⟩:=map_app h10
 obtain ⟨y,r,rfl,h13,h14⟩:=map_cons h12
 obtain ⟨z,r,rfl,h15,h16⟩:=map_cons h14
 obtain ⟨x2,r,rfl,h17,h18⟩:=map_cons h16
 obtain ⟨B2,r,rfl,h19,h20⟩:=map_app h18
 obtain ⟨y2,rfl,h21⟩:=map_one h20
 obtain ⟨h1,h1'⟩:=kf_s h1
 obtain ⟨h3,h3'⟩:=kf_s h3
 obtain ⟨h7,h7'⟩:=kf_s h7
 obtain ⟨h9,h9'⟩:=kf_s h9
 obtain ⟨h13,h13'⟩:=kf_s h13
 obtain ⟨h15,h15'⟩:=kf_s h15
 obtain ⟨h17,h17'⟩:=kf_s h17
 obtain ⟨h21,h21'⟩:=kf_s h21
 have he:v::u::(A++w::x::(B++y::z::x2::(B2++[y2])))++rest=v::u::(A++w::(x::(B++y::(z::(x2::(B2++y2::rest)))))):=by simp
 have hi:=inner_x (e:=e) (d:=d+1) (rest:=x::(B++y::(z::(x2::(B2++y2::rest))))) ho.1 h5 h3 h3' h7 h7' (by simp)
 have hb:=C.blk (e:=e) (d:=d+1) (rest:=z::(x2::(B2++y2::rest))) ho.2.1 h11 h9 h9' h13 h13'
 have hb2:=C2.blk (e:=e) (d:=d+1) (rest:=rest) ho.2.2 h19 h17 h17' h21 h21'
 have hv:=sgn (rest:=u::(A++w::(x::(B++y::(z::(x2::(B2++y2::rest))))))) h1 h1'
 have hz:=sgn (rest:=x2::(B2++y2::rest)) h15 h15'
 rw [he,S.fit]
 refine sx_deep fun hd=>?_
 cases hfa:exf c (d+1) with
 | false =>
  refine ⟨fun hb=>(by simp at hb),fun _=>?_⟩
  obtain ⟨pos,k1⟩:=hi.2 hfa
  refine ⟨pos,es0 fun f=>?_⟩
  rw [rs,if_neg (by omega)];simp only
  rw [if_neg (by rw [hv];decide),if_pos (.inl hv),List.tail_cons,k1]
 | true =>
  obtain ⟨tc,k1,k2⟩:=hi.1 hfa
  rw [Bool.true_and]
  cases hfb:(decide (d+1≤60)&&S.fits l (d+2)) with
  | false =>
   refine ⟨fun hb=>(by simp at hb),fun _=>?_⟩
   obtain ⟨pos,k3⟩:=hb.2 hfb
   refine ⟨pos,es_and k3 fun f k3=>?_⟩
   rw [rs,if_neg (by omega)];simp only
   rw [if_neg (by rw [hv];decide),if_pos (.inl hv),List.tail_cons,k2];simp only
   rw [k3]
  | true =>
   obtain ⟨tb,k3,k4⟩:=hb.1 hfb
   rw [Bool.true_and]
   refine ⟨fun h=>?_,fun h=>?_⟩
   ·obtain ⟨tb2,k5,k6⟩:=hb2.1 h
    refine ⟨one 9 v.at_ [] [tc,tb,tb2],by show er _=_;rw [er_one,ers,ers,ers,k1,k3,k5,S.tree];rfl,es_and2 k4 k6 fun f k4 k6=>?_⟩
    rw [rs,if_neg (by omega)];simp only
    rw [if_neg (by rw [hv];decide),if_pos (.inl hv),List.tail_cons,k2];simp only
    rw [k4];simp only
    rw [if_pos hv,if_pos hz,List.tail_cons,k6];rfl
   ·obtain ⟨pos,k5⟩:=hb2.2 h
    refine ⟨pos,es_and2 k4 k5 fun f k4 k5=>?_⟩
    rw [rs,if_neg (by omega)];simp only
    rw [if_neg (by rw [hv];decide),if_pos (.inl hv),List.tail_cons,k2];simp only
    rw [k4];simp only
    rw [if_pos hv,if_pos hz,List.tail_cons,k5]
end
mutual
theorem coreS:∀ (s:S),CoreS s
 | .set s a=>core_set s a
 | .put s a b=>core_put s a b
 | .if1 c b=>core_if1 c (coreB b)
 | .if2 c b b2=>core_if2 c (coreB b) (coreB b2)
 | .while_ c b=>core_while c (coreB b)
 | .ret a=>core_ret a
 | .do_ a=>core_do a
 | .var s a=>core_var s a
theorem coreB:∀ (l:List S),CoreB l
 | []=>coreB_nil
 | a::l=>coreB_cons (coreS a) (coreB l)
end
def blkTk (l:List S):List K:=kS [123]::(S.tks l++[kS [125]])
def blkTree (l:List S):T:=.mk ⟨14,0,0,[],[]⟩ (S.trees l)
def blkFit (l:List S) (d:Nat):Bool:=decide (d≤60)&&S.fits l (d+1)
theorem rs_up (e:Int):∀ f,(∀ j ts,rs e f j ts=.error fuelOut∨rs e (f+1) j ts=rs e f j ts)∧(∀ d acc ts,rs.body e f d acc ts=.error fuelOut∨rs.body e (f+1) d acc ts=rs.body e f d acc ts):=by
 intro f
 induction f with
 | zero=>exact ⟨fun j ts=>.inl (by simp [rs]),fun d acc ts=>.inl (by simp [rs.body])⟩
 | succ f ih =>
  obtain ⟨i1,i2⟩:=ih
  refine ⟨fun j ts=>?_,fun d acc ts=>?_⟩
  ·cases j with
   | block d =>
    rw [rs,rs]
    split
    ·exact .inr rfl
    ·cases must e [123] ts with
     | error x=>exact .inr rfl
     | ok r =>
      simp only
      rcases i2 (d+1) [] r with h | h
      ·left;rw [h]
      ·rw [h];exact .inr rfl
   | stmt d =>
    rw [rs,rs]
    split
    ·exact .inr rfl
    ·simp only
     split
     ·exact .inr rfl
     ·split
      ·cases inner e (d+1) [40] [41] ts.tail with
       | error x=>exact .inr rfl
       | ok y =>
        obtain ⟨c,r⟩:=y
        simp only
        rcases i1 (.block (d+1)) r with h | h
        ·left;rw [h]
        ·rw [h]
         cases rs e f (.block (d+1)) r with
         | error x=>exact .inr rfl
         | ok y =>
          obtain ⟨b,r⟩:=y
          simp only
          split
          ·split
           ·rcases i1 (.block (d+1)) r.tail with h | h
            ·left;rw [h]
            ·rw [h];exact .inr rfl
           ·exact .inr rfl
          ·exact .inr rfl
      ·exact .inr rfl
  ·rw [rs.body,rs.body]
   split
   ·exact .inr rfl
   ·rcases i1 (.stmt d) ts with h | h
    ·left;rw [h]
    ·rw [h]
     cases rs e f (.stmt d) ts with
     | error x=>exact .inr rfl
     | ok y=>exact i2 _ _ _
theorem rs_mono {e:Int} {f f':Nat} {j:SJob} {ts:List Tok} (h:rs e f j ts≠.error fuelOut) (hf:f≤f'):rs e f' j ts=rs e f j ts:=by
 obtain ⟨k,rfl⟩:=Nat.exists_eq_add_of_le hf
 clear hf
 induction k with
 | zero=>rfl
 | succ k ih =>
  rcases (rs_up e (f+k)).1 j ts with h1 | h1
  ·rw [ih] at h1;exact absurd h1 h
  ·rw [←Nat.add_assoc,h1,ih]
theorem block_rt {l:List S} {e:Int} {d:Nat} {ts rest:List Tok} (ho:S.oks l=true) (ht:ts.map kf=blkTk l) :
  (blkFit l d=true→∃ t,er t=blkTree l∧block e d (ts++rest)=.ok (t,rest))∧(blkFit l d=false→∃ pos,block e d (ts++rest)=.error (9,pos)):=by
 obtain ⟨u,r,rfl,h1,h2⟩:=map_cons ht
 obtain ⟨A,r,rfl,h3,h4⟩:=map_app h2
 obtain ⟨w,rfl,h5⟩:=map_one h4
 obtain ⟨h1,h1'⟩:=kf_s h1
 obtain ⟨h5,h5'⟩:=kf_s h5
 have hb:=(coreB l).blk (e:=e) (d:=d) (rest:=rest) ho h3 h1 h1' h5 h5'
 have he:u::(A++[w])++rest=u::(A++w::rest):=by simp
 rw [he]
 have key:∀ {x:Rd T},Es e (.block d) (u::(A++w::rest)) x→block e d (u::(A++w::rest))=x:=by
  rintro x ⟨f0,h0⟩
  have hne:rs e (fuelOf (u::(A++w::rest))) (.block d) (u::(A++w::rest))≠.error fuelOut:=block_fuel
  have:=rs_mono hne (Nat.le_add_left _ f0)
  rw [h0 _ (by omega)] at this
  exact this.symm
 exact ⟨fun h=>by obtain ⟨t,k1,k2⟩:=hb.1 h;exact ⟨t,k1,key k2⟩,fun h=>by obtain ⟨pos,k1⟩:=hb.2 h;exact ⟨pos,key k1⟩⟩
end Go.Xp
namespace Go.Xp
open Go.Sp (nameOk anySign allT allTs ownT own isExpr isStmt kindsFrom)
def wrp32 (n:Int):Int:=if n % 4294967296 > 2147483647 then n % 4294967296 - 4294967296 else n % 4294967296
def digs (n:Nat):Str:=if h:n < 10 then [UInt8.ofNat (48+n)] else digs (n / 10)++[UInt8.ofNat (48+n % 10)]
termination_by n
decreasing_by omega
theorem digs_len (n:Nat):(digs n).length≤n+1:=by
 induction n using Nat.strongRecOn with
 | _ n ih =>
 unfold digs
 by_cases h:n < 10
 ·rw [dif_pos h];simp
 ·rw [dif_neg h,List.length_append]
  have:=ih (n / 10) (by omega)
  simp;omega
def joinC:List Str→Str
 | []=>[]
 | x::r=>x++r.flatMap fun y=>44::32::y
theorem joinC_snoc {l:List Str} (h:l≠[]) (x:Str):joinC (l++[x])=(joinC l++[44,32])++x:=by
 cases l with
 | nil=>exact absurd rfl h
 | cons a l=>simp [joinC,List.flatMap_append]
theorem joinC_take (l:List Str) (k:Nat):(joinC (l.take k)).length≤(joinC l).length:=by
 cases l with
 | nil=>simp
 | cons a l =>
  cases k with
  | zero=>simp [joinC]
  | succ k =>
   simp only [List.take_succ_cons,joinC,List.length_append]
   have:∀ (l:List Str) (k:Nat),((l.take k).flatMap fun y=>(44:UInt8)::32::y).length≤(l.flatMap fun y=>(44:UInt8)::32::y).length:=by
    intro l
    induction l with
    | nil=>intro k;simp
    | cons b l ih=>intro k;cases k with
     | zero=>simp
     | succ k=>simp only [List.take_succ_cons,List.flatMap_cons,List.length_append];have:=ih k;omega
   have:=this l k;omega
def brt (lv k:Nat) (x:Str):Str:=if lv < k then (40::x)++[41] else x
mutual
def E.txt:E→Str
 | .num n=>digs n.toNat
 | .name s=>s
 | .at_ s a=>((s++[91])++a.txt)++[93]
 | .call s l=>((s++[40])++joinC (E.txts l))++[41]
 | .un s a=>(s++[32])++brt a.lv 9 a.txt
 | .bin s a b=>(((brt a.lv (lvOf s) a.txt++[32])++s)++[32])++brt b.lv (lvOf s+1) b.txt
def E.txts:List E→List Str
 | []=>[]
 | a::l=>a.txt::E.txts l
end
mutual
def E.full:E→Str
 | .num n=>digs n.toNat
 | .name s=>s
 | .at_ s a=>((s++[91])++a.full)++[93]
 | .call s l=>((s++[40])++joinC (E.fulls l))++[41]
 | .un s a=>((40::s)++a.full)++[41]
 | .bin s a b=>(((((40::a.full)++[32])++s)++[32])++b.full)++[41]
def E.fulls:List E→List Str
 | []=>[]
 | a::l=>a.full::E.fulls l
end
theorem E.txts_map (l:List E):E.txts l=l.map E.txt:=by
 induction l with
 | nil=>rfl
 | cons a l ih=>rw [E.txts,ih];rfl
theorem E.fulls_map (l:List E):E.fulls l=l.map E.full:=by
 induction l with
 | nil=>rfl
 | cons a l ih=>rw [E.fulls,ih];rfl
def E.out (least:Bool) (a:E):Str:=if least then a.txt else a.full
mutual
def S.txt (x:E→Str):S→Str
 | .set s a=>((s++[32,61,32])++x a)++[59]
 | .put s a b=>((((s++[91])++x a)++[93,32,61,32])++x b)++[59]
 | .if1 c b=>(([105,102,32,40]++x c)++[41,32])++(S.txts x [123,32] b++[125])
 | .if2 c b b2=>(((([105,102,32,40]++x c)++[41,32])++(S.txts x [123,32] b++[125]))++[32,101,108,115,101,32])++(S.txts x [123,32] b2++[125])
 | .while_ c b=>(([119,104,105,108,101,32,40]++x c)++[41,32])++(S.txts x [123,32] b++[125])
 | .ret a=>([114,101,116,117,114,110,32]++x a)++[59]
 | .do_ a=>x a++[59]
 | .var s a=>((([118,97,114,32]++s)++[32,61,32])++x a)++[59]
def S.txts (x:E→Str):Str→List S→Str
 | acc,[]=>acc
 | acc,a::l=>S.txts x ((acc++a.txt x)++[32]) l
end
def blkTxt (x:E→Str) (l:List S):Str:=S.txts x [123,32] l++[125]
theorem allT_mk (n:Nd) (l:List T):allT (.mk n l)=(allTs l&&ownT (.mk n l)):=by rw [allT]
theorem allTs_mem {l:List T} (h:allTs l=true) {t:T} (ht:t∈l):allT t=true:=by
 induction l with
 | nil=>cases ht
 | cons a l ih =>
  rw [allTs,Bool.and_eq_true] at h
  rcases List.mem_cons.1 ht with rfl | ht
  ·exact h.1
  ·exact ih h.2 ht
theorem er_eq (n:Nd) (l:List T):er (.mk n l)=.mk ⟨n.kind,0,n.n,n.s,[]⟩ (ers l):=by rw [er]
theorem kinds1 {l:List T} {m i:Nat} (h:kindsFrom m i l=true):∀ (j:Nat) t,l[j]?=some t→(if i+j < m then isExpr t.n.kind else t.n.kind==14)=true:=by
 induction l generalizing i with
 | nil=>intro j t h;simp at h
 | cons a l ih =>
  rw [kindsFrom,Bool.and_eq_true] at h
  intro j t hj
  cases j with
  | zero=>cases hj;exact h.1
  | succ j=>have:=ih h.2 j t (by simpa using hj);rw [show i+(j+1)=i+1+j by omega];exact this
theorem exprs_of:∀ (l:List T),(∀ t∈l,∃ a:E,a.ok=true∧er t=a.tree)→∃ es:List E,E.oks es=true∧ers l=E.trees es
 | [],_=>⟨[],rfl,rfl⟩
 | t::l,h=>by
  obtain ⟨a,h1,h2⟩:=h t (List.mem_cons_self)
  obtain ⟨es,h3,h4⟩:=exprs_of l (fun t ht=>h t (List.mem_cons_of_mem _ ht))
  exact ⟨a::es,by simp [E.oks,h1,h3],by rw [ers,E.trees,h2,h4]⟩
theorem toE:∀ (sz:Nat) (t:T),sizeOf t≤sz→allT t=true→isExpr t.n.kind=true→∃ a:E,a.ok=true∧er t=a.tree:=by
 intro sz
 induction sz with
 | zero=>intro t h;cases t;simp at h
 | succ sz ih =>
  intro t hsz ha hk
  obtain ⟨n,l⟩:=t
  rw [allT_mk,Bool.and_eq_true] at ha
  obtain ⟨ha,ho⟩:=ha
  have hsub:∀ t∈l,isExpr t.n.kind=true→∃ a:E,a.ok=true∧er t=a.tree:=fun t ht hk=>by
   have:=List.sizeOf_lt_of_mem ht
   exact ih t (by simp at hsz;omega) (allTs_mem ha ht) hk
  obtain ⟨k,at_,v,s,ks⟩:=n
  have hk:(1:Int)≤k∧k≤6:=by
   simp only [isExpr,T.n,Bool.and_eq_true] at hk
   exact ⟨of_decide_eq_true hk.1,of_decide_eq_true hk.2⟩
  simp only [ownT,own,T.n,T.kids] at ho
  obtain rfl | rfl | rfl | rfl | rfl | rfl:k=1∨k=2∨k=3∨k=4∨k=5∨k=6:=by omega
  ·simp at ho
   obtain ⟨h1,h2,h3,h4,h5⟩:=ho
   subst h4 h5
   exact ⟨.num v,by simp only [E.ok,Bool.and_eq_true];exact ⟨h2,h3⟩,by rw [er_eq,E.tree];rfl⟩
  ·simp at ho
   obtain ⟨h1,h2,h3,h4⟩:=ho
   subst h2 h4
   exact ⟨.name s,by simp [E.ok,h3],by rw [er_eq,E.tree];rfl⟩
  ·simp at ho
   obtain ⟨h1,h2,h3,h4,h5⟩:=ho
   subst h2
   match l,h4 with
   | [t],_ =>
    have hkt:=kinds1 h5 0 t rfl
    obtain ⟨a,h6,h7⟩:=hsub t (by simp) (by simpa using hkt)
    exact ⟨.at_ s a,by simp [E.ok,h3,h6],by rw [er_eq,E.tree,ers,h7];rfl⟩
  ·simp at ho
   obtain ⟨h1,h2,h3,h5⟩:=ho
   subst h2
   obtain ⟨es,h6,h7⟩:=exprs_of l fun t ht=>hsub t ht (by
    obtain ⟨j,hj⟩:=List.mem_iff_getElem?.1 ht
    have hlt:=(List.getElem?_eq_some_iff.1 hj).1
    have:=kinds1 h5 j t hj
    rw [if_pos (by omega)] at this;exact this)
   exact ⟨.call s es,by simp [E.ok,h3,h6],by rw [er_eq,E.tree,h7]⟩
  ·simp at ho
   obtain ⟨h1,h2,h3,h4,h5⟩:=ho
   subst h2
   match l,h4 with
   | [t],_ =>
    have hkt:=kinds1 h5 0 t rfl
    obtain ⟨a,h6,h7⟩:=hsub t (by simp) (by simpa using hkt)
    exact ⟨.un s a,by simp only [E.ok,h6,Bool.and_true,Bool.or_eq_true,beq_iff_eq];exact h3,by rw [er_eq,E.tree,ers,h7];rfl⟩
  ·simp at ho
   obtain ⟨h1,h2,h3,h4,h5⟩:=ho
   subst h2
   match l,h4 with
   | [t,u],_ =>
    have hkt:=kinds1 h5 0 t rfl
    have hku:=kinds1 h5 1 u rfl
    obtain ⟨a,h6,h7⟩:=hsub t (by simp) (by simpa using hkt)
    obtain ⟨b,h8,h9⟩:=hsub u (by simp) (by simpa using hku)
    exact ⟨.bin s a b,by simp [E.ok,h3,h6,h8],by rw [er_eq,E.tree,ers,ers,h7,h9];rfl⟩
end Go.Xp
namespace Go.Xp
open Go.Sp (nameOk anySign allT allTs ownT own isExpr isStmt kindsFrom)
theorem stmts_of:∀ (l:List T),(∀ t∈l,∃ a:S,a.ok=true∧er t=a.tree)→∃ es:List S,S.oks es=true∧ers l=S.trees es
 | [],_=>⟨[],rfl,rfl⟩
 | t::l,h=>by
  obtain ⟨a,h1,h2⟩:=h t (List.mem_cons_self)
  obtain ⟨es,h3,h4⟩:=stmts_of l (fun t ht=>h t (List.mem_cons_of_mem _ ht))
  exact ⟨a::es,by simp [S.oks,h1,h3],by rw [ers,S.trees,h2,h4]⟩
theorem toS:∀ (sz:Nat) (t:T),sizeOf t≤sz→allT t=true→(isStmt t.n.kind=true→∃ a:S,a.ok=true∧er t=a.tree)∧(t.n.kind=14→∃ l:List S,S.oks l=true∧er t=blkTree l):=by
 intro sz
 induction sz with
 | zero=>intro t h;cases t;simp at h
 | succ sz ih =>
  intro t hsz ha
  obtain ⟨n,l⟩:=t
  rw [allT_mk,Bool.and_eq_true] at ha
  obtain ⟨ha,ho⟩:=ha
  have hex:∀ t∈l,isExpr t.n.kind=true→∃ a:E,a.ok=true∧er t=a.tree:=fun t ht hk=>toE _ t (Nat.le_refl _) (allTs_mem ha ht) hk
  have hblk:∀ t∈l,t.n.kind=14→∃ l:List S,S.oks l=true∧er t=blkTree l:=fun t ht hk=>by
   have:=List.sizeOf_lt_of_mem ht
   exact (ih t (by simp at hsz;omega) (allTs_mem ha ht)).2 hk
  have hst:∀ t∈l,isStmt t.n.kind=true→∃ a:S,a.ok=true∧er t=a.tree:=fun t ht hk=>by
   have:=List.sizeOf_lt_of_mem ht
   exact (ih t (by simp at hsz;omega) (allTs_mem ha ht)).1 hk
  obtain ⟨k,at_,v,s,ks⟩:=n
  simp only [ownT,own,T.n,T.kids] at ho
  refine ⟨fun hk=>?_,fun hk=>?_⟩
  ·have hk:(7:Int)≤k∧k≤13:=by
    simp only [isStmt,T.n,Bool.and_eq_true] at hk
    exact ⟨of_decide_eq_true hk.1,of_decide_eq_true hk.2⟩
   obtain rfl | rfl | rfl | rfl | rfl | rfl | rfl:k=7∨k=8∨k=9∨k=10∨k=11∨k=12∨k=13:=by omega
   ·simp at ho
    obtain ⟨h1,h2,h3,h4,h5⟩:=ho
    subst h2
    match l,h4 with
    | [t],_ =>
     obtain ⟨a,h6,h7⟩:=hex t (by simp) (by simpa using kinds1 h5 0 t rfl)
     exact ⟨.set s a,by simp [S.ok,h3,h6],by rw [er_eq,S.tree,ers,h7];rfl⟩
   ·simp at ho
    obtain ⟨h1,h2,h3,h4,h5⟩:=ho
    subst h2
    match l,h4 with
    | [t,u],_ =>
     obtain ⟨a,h6,h7⟩:=hex t (by simp) (by simpa using kinds1 h5 0 t rfl)
     obtain ⟨b,h8,h9⟩:=hex u (by simp) (by simpa using kinds1 h5 1 u rfl)
     exact ⟨.put s a b,by simp [S.ok,h3,h6,h8],by rw [er_eq,S.tree,ers,ers,h7,h9];rfl⟩
   ·simp at ho
    obtain ⟨h1,h2,h3,h4,h5⟩:=ho
    subst h2 h3
    rcases h4 with h4 | h4
    ·match l,h4 with
     | [t,u],_ =>
      obtain ⟨a,h6,h7⟩:=hex t (by simp) (by simpa using kinds1 h5 0 t rfl)
      obtain ⟨b,h8,h9⟩:=hblk u (by simp) (by simpa using kinds1 h5 1 u rfl)
      exact ⟨.if1 a b,by simp [S.ok,h6,h8],by rw [er_eq,S.tree,ers,ers,h7,h9];rfl⟩
    ·match l,h4 with
     | [t,u,w],_ =>
      obtain ⟨a,h6,h7⟩:=hex t (by simp) (by simpa using kinds1 h5 0 t rfl)
      obtain ⟨b,h8,h9⟩:=hblk u (by simp) (by simpa using kinds1 h5 1 u rfl)
      obtain ⟨c,h10,h11⟩:=hblk w (by simp) (by simpa using kinds1 h5 2 w rfl)
      exact ⟨.if2 a b c,by simp [S.ok,h6,h8,h10],by rw [er_eq,S.tree,ers,ers,ers,h7,h9,h11];rfl⟩
   ·simp at ho
    obtain ⟨h1,h2,h3,h4,h5⟩:=ho
    subst h2 h3
    match l,h4 with
    | [t,u],_ =>
     obtain ⟨a,h6,h7⟩:=hex t (by simp) (by simpa using kinds1 h5 0 t rfl)
     obtain ⟨b,h8,h9⟩:=hblk u (by simp) (by simpa using kinds1 h5 1 u rfl)
     exact ⟨.while_ a b,by simp [S.ok,h6,h8],by rw [er_eq,S.tree,ers,ers,h7,h9];rfl⟩
   ·simp at ho
    obtain ⟨h1,h2,h3,h4,h5⟩:=ho
    subst h2 h3
    match l,h4 with
    | [t],_ =>
     obtain ⟨a,h6,h7⟩:=hex t (by simp) (by simpa using kinds1 h5 0 t rfl)
     exact ⟨.ret a,by simp [S.ok,h6],by rw [er_eq,S.tree,ers,h7];rfl⟩
   ·simp at ho
    obtain ⟨h1,h2,h3,h4,h5⟩:=ho
    subst h2 h3
    match l,h4 with
    | [t],_ =>
     obtain ⟨a,h6,h7⟩:=hex t (by simp) (by simpa using kinds1 h5 0 t rfl)
     exact ⟨.do_ a,by simp [S.ok,h6],by rw [er_eq,S.tree,ers,h7];rfl⟩
   ·simp at ho
    obtain ⟨h1,h2,h3,h4,h5⟩:=ho
    subst h2
    match l,h4 with
    | [t],_ =>
     obtain ⟨a,h6,h7⟩:=hex t (by simp) (by simpa using kinds1 h5 0 t rfl)
     exact ⟨.var s a,by simp [S.ok,h3,h6],by rw [er_eq,S.tree,ers,h7];rfl⟩
  ·simp only [T.n] at hk
   subst hk
   simp at ho
   obtain ⟨h1,h2,h3,h4⟩:=ho
   subst h2 h4
   obtain ⟨es,h5,h6⟩:=stmts_of l fun t ht=>hst t ht (h3 t ht)
   exact ⟨es,h5,by rw [er_eq,blkTree,h6]⟩
theorem toB {t:T} (h:allT t=true) (hk:t.n.kind=14):∃ l:List S,S.oks l=true∧er t=blkTree l:=(toS _ t (Nat.le_refl _) h).2 hk
mutual
def wt:T→Nat
 | .mk n l=>30+n.s.length+wts l
def wts:List T→Nat
 | []=>0
 | t::l=>wt t+wts l
end
mutual
theorem wt_er:∀ t:T,wt (er t)=wt t
 | .mk n l=>by rw [er,wt,wt,wts_ers l]
theorem wts_ers:∀ l:List T,wts (ers l)=wts l
 | []=>rfl
 | t::l=>by rw [ers,wts,wts,wt_er t,wts_ers l]
end
theorem digs_le:∀ (k n:Nat),n < 10 ^ (k+1)→(digs n).length≤k+1:=by
 intro k
 induction k with
 | zero=>intro n h;unfold digs;rw [dif_pos (by omega)];simp
 | succ k ih =>
  intro n h
  unfold digs
  split
  ·simp
  ·rw [List.length_append]
   have:=ih (n / 10) (by rw [Nat.pow_succ] at h;omega)
   simp;omega
theorem brt_len (lv k:Nat) (x:Str):(brt lv k x).length≤x.length+2:=by unfold brt;split <;> simp
mutual
theorem E.len:∀ a:E,a.ok=true→a.txt.length+4≤wt a.tree∧a.full.length+4≤wt a.tree
 | .num n,h=>by
  simp only [E.ok,Bool.and_eq_true] at h
  have h1:=of_decide_eq_true h.1
  have h2:=of_decide_eq_true h.2
  have:=digs_le 9 n.toNat (by omega)
  rw [E.txt,E.full,E.tree,wt]
  simp only [List.length_nil,wts];omega
 | .name s,h=>by rw [E.txt,E.full,E.tree,wt];simp only [wts];omega
 | .at_ s a,h=>by
  simp only [E.ok,Bool.and_eq_true] at h
  have:=E.len a h.2
  rw [E.txt,E.full,E.tree,wt]
  simp only [wts,List.length_append,List.length_cons,List.length_nil];omega
 | .call s l,h=>by
  simp only [E.ok,Bool.and_eq_true] at h
  have:=E.lens l h.2
  rw [E.txt,E.full,E.tree,wt]
  simp only [List.length_append,List.length_cons,List.length_nil];omega
 | .un s a,h=>by
  simp only [E.ok,Bool.and_eq_true] at h
  have:=E.len a h.2
  have:=brt_len a.lv 9 a.txt
  rw [E.txt,E.full,E.tree,wt]
  simp only [wts,List.length_append,List.length_cons,List.length_nil];omega
 | .bin s a b,h=>by
  simp only [E.ok,Bool.and_eq_true] at h
  have:=E.len a h.1.2
  have:=E.len b h.2
  have:=brt_len a.lv (lvOf s) a.txt
  have:=brt_len b.lv (lvOf s+1) b.txt
  rw [E.txt,E.full,E.tree,wt]
  simp only [wts,List.length_append,List.length_cons,List.length_nil];omega
theorem E.lens:∀ l:List E,E.oks l=true→(joinC (E.txts l)).length≤wts (E.trees l)∧(joinC (E.fulls l)).length≤wts (E.trees l)
 | [],_=>⟨Nat.zero_le _,Nat.zero_le _⟩
 | a::l,h=>by
  simp only [E.oks,Bool.and_eq_true] at h
  have h1:=E.len a h.1
  have h2:=E.lens l h.2
  rw [E.txts,E.fulls,E.trees,wts]
  have key:∀ (x:Str) (l:List Str),(joinC (x::l)).length≤x.length+2+(joinC l).length:=by
   intro x l
   cases l with
   | nil=>simp [joinC]
   | cons y l=>simp [joinC];omega
  have:=key a.txt (E.txts l)
  have:=key a.full (E.fulls l)
  omega
end
mutual
theorem S.len (x:E→Str) (hx:∀ a:E,a.ok=true→(x a).length+4≤wt a.tree):∀ s:S,s.ok=true→(s.txt x).length+4≤wt s.tree
 | .set s a,h=>by
  simp only [S.ok,Bool.and_eq_true] at h
  have:=hx a h.2
  rw [S.txt,S.tree,wt];simp only [wts,List.length_append,List.length_cons,List.length_nil];omega
 | .put s a b,h=>by
  simp only [S.ok,Bool.and_eq_true] at h
  have:=hx a h.2.1
  have:=hx b h.2.2
  rw [S.txt,S.tree,wt];simp only [wts,List.length_append,List.length_cons,List.length_nil];omega
 | .if1 c b,h=>by
  simp only [S.ok,Bool.and_eq_true] at h
  have:=hx c h.1
  have:=S.lens x hx b h.2 [123,32]
  rw [S.txt,S.tree,wt];simp only [wts,wt,List.length_append,List.length_cons,List.length_nil] at *;omega
 | .if2 c b b2,h=>by
  simp only [S.ok,Bool.and_eq_true] at h
  have:=hx c h.1
  have:=S.lens x hx b h.2.1 [123,32]
  have:=S.lens x hx b2 h.2.2 [123,32]
  rw [S.txt,S.tree,wt];simp only [wts,wt,List.length_append,List.length_cons,List.length_nil] at *;omega
 | .while_ c b,h=>by
  simp only [S.ok,Bool.and_eq_true] at h
  have:=hx c h.1
  have:=S.lens x hx b h.2 [123,32]
  rw [S.txt,S.tree,wt];simp only [wts,wt,List.length_append,List.length_cons,List.length_nil] at *;omega
 | .ret a,h=>by
  simp only [S.ok] at h
  have:=hx a h
  rw [S.txt,S.tree,wt];simp only [wts,List.length_append,List.length_cons,List.length_nil];omega
 | .do_ a,h=>by
  simp only [S.ok] at h
  have:=hx a h
  rw [S.txt,S.tree,wt];simp only [wts,List.length_append,List.length_cons,List.length_nil];omega
 | .var s a,h=>by
  simp only [S.ok,Bool.and_eq_true] at h
  have:=hx a h.2
  rw [S.txt,S.tree,wt];simp only [wts,List.length_append,List.length_cons,List.length_nil];omega
theorem S.lens (x:E→Str) (hx:∀ a:E,a.ok=true→(x a).length+4≤wt a.tree):∀ l:List S,S.oks l=true→∀ acc:Str,(S.txts x acc l).length≤acc.length+wts (S.trees l)
 | [],_,acc=>by rw [S.txts];omega
 | a::l,h,acc=>by
  simp only [S.oks,Bool.and_eq_true] at h
  have h1:=S.len x hx a h.1
  have h2:=S.lens x hx l h.2 ((acc++a.txt x)++[32])
  rw [S.txts,S.trees,wts]
  simp only [List.length_append,List.length_cons,List.length_nil] at h2;omega
end
theorem blk_len (x:E→Str) (hx:∀ a:E,a.ok=true→(x a).length+4≤wt a.tree) {l:List S} (h:S.oks l=true):(blkTxt x l).length≤wt (blkTree l):=by
 have:=S.lens x hx l h [123,32]
 unfold blkTxt blkTree
 rw [wt];simp only [List.length_append,List.length_cons,List.length_nil] at *;omega
end Go.Xp
namespace Go.Im
open Go.Xp Go.Sp
def trK (g:Nat→Option (T × Nat)):List Int→Nat→List T→Option (List T × Nat)
 | [],next,acc=>some (acc,next)
 | k::r,next,acc=>if k=(next:Int) then match g next with
  | none=>none
  | some (t,e)=>trK g r e (acc++[t])
  else none
def trN (nodes:List Nd):Nat→Nat→Option (T × Nat)
 | 0,_=>none
 | f+1,a=>match nodes[a]? with
  | none=>none
  | some n=>match trK (trN nodes f) n.kids (a+1) [] with
   | none=>none
   | some (l,e)=>if n.at_ < 0 then none else some (.mk n l,e)
def tr (nodes:List Nd) (a:Nat):Option (T × Nat):=trN nodes (nodes.length+1) a
theorem trK_spec {nodes:List Nd} {g:Nat→Option (T × Nat)} (hg:∀ a t e,g a=some (t,e)→a < e∧e≤nodes.length∧e=a+szT t∧(nodes.take e).drop a=flT a t) :
  ∀ (ks:List Int) (next:Nat) (acc l:List T) (e:Nat),next≤nodes.length→trK g ks next acc=some (l,e)→∃ l',l=acc++l'∧e=next+szL l'∧e≤nodes.length∧ks=kidsAt next l'∧(nodes.take e).drop next=flL next l'
 | [],next,acc,l,e,hn,h=>by
  rw [trK] at h;cases h
  exact ⟨[],by simp,by simp [szL],hn,rfl,by rw [flL];exact List.eq_nil_of_length_eq_zero (by rw [List.length_drop,List.length_take];omega)⟩
 | k::r,next,acc,l,e,hn,h=>by
  rw [trK] at h
  split at h
  ·rename_i hk
   cases hq:g next with
   | none=>rw [hq] at h;cases h
   | some x =>
    obtain ⟨t,e1⟩:=x
    rw [hq] at h
    simp only at h
    obtain ⟨a1,a2,a3,a4⟩:=hg _ _ _ hq
    obtain ⟨l',b1,b2,b3,b4,b5⟩:=trK_spec hg r e1 (acc++[t]) l e a2 h
    refine ⟨t::l',by rw [b1];simp,by rw [szL];omega,b3,by rw [kidsAt,←a3,←b4,hk],?_⟩
    rw [flL,←a3,←a4,←b5]
    have he:e1≤e:=by omega
    have h1:(nodes.take e).take e1=nodes.take e1:=by rw [List.take_take,Nat.min_eq_left he]
    have h2:(nodes.take e).drop next=((nodes.take e).take e1).drop next++(nodes.take e).drop e1:=by
     have h3:nodes.take e=(nodes.take e).take e1++(nodes.take e).drop e1:=(List.take_append_drop _ _).symm
     have h4:((nodes.take e).take e1).length=e1:=by rw [List.length_take,List.length_take];omega
     rw [h3,List.drop_append_of_le_length (by rw [h4];omega)]
     rw [←h3]
    rw [h2,h1]
  ·cases h
theorem trN_spec {nodes:List Nd}:∀ (f a:Nat) (t:T) (e:Nat),trN nodes f a=some (t,e)→a < e∧e≤nodes.length∧e=a+szT t∧(nodes.take e).drop a=flT a t
 | 0,a,t,e,h=>by cases h
 | f+1,a,t,e,h=>by
  rw [trN] at h
  cases hn:nodes[a]? with
  | none=>rw [hn] at h;cases h
  | some n =>
   rw [hn] at h
   simp only at h
   have hlt:=(List.getElem?_eq_some_iff.1 hn).1
   cases hk:trK (trN nodes f) n.kids (a+1) [] with
   | none=>rw [hk] at h;cases h
   | some x =>
    obtain ⟨l,e1⟩:=x
    rw [hk] at h
    simp only at h
    split at h
    ·cases h
    ·cases h
     obtain ⟨l',b1,b2,b3,b4,b5⟩:=trK_spec (trN_spec f) n.kids (a+1) [] l e hlt hk
     have:l'=l:=by rw [b1];rfl
     subst this
     refine ⟨by omega,b3,by rw [szT];omega,?_⟩
     rw [flT,←b4,←b5]
     have h1:(nodes.take e)[a]?=some n:=by rw [List.getElem?_take,if_pos (by omega)];exact hn
     obtain ⟨h2,h3⟩:=List.getElem?_eq_some_iff.1 h1
     rw [List.drop_eq_getElem_cons h2,h3]
def bodI (nodes:List Nd):List Fn→Nat→List T→Option (List T × Nat)
 | [],next,acc=>some (acc,next)
 | f::r,next,acc=>match tr nodes next with
  | none=>none
  | some (t,e)=>if f.body=(next:Int) then bodI nodes r e (acc++[t]) else none
def kOkN (k:Int) (n:Nat):Bool :=
 if k=1∨k=2 then ((n:Int)==0)
 else if k=4∨k=14 then true
 else if k=3∨k=5∨k=7∨k=11∨k=12∨k=13 then ((n:Int)==1)
 else if k=6∨k=8∨k=10 then ((n:Int)==2)
 else if k=9 then ((n:Int)==2) || ((n:Int)==3)
 else false
mutual
def kOk:T→Bool
 | .mk n l=>kOkN n.kind l.length&&kOks l
def kOks:List T→Bool
 | []=>true
 | t::r=>kOk t&&kOks r
end
theorem kOk_eq (t:T):kOk t=(kOkN t.n.kind t.kids.length&&kOks t.kids):=by cases t;rw [kOk];rfl
theorem kOks_all (l:List T):kOks l=l.all kOk:=by
 induction l with
 | nil=>rfl
 | cons t l ih=>rw [kOks,ih];rfl
end Go.Im
namespace Go.Im
open Go.Xp Go.Sp
mutual
def StT (nodes:List Nd):Nat→T→Prop
 | a,.mk n l=>nodes[a]?=some n∧n.kids=kidsAt (a+1) l∧StL nodes (a+1) l
def StL (nodes:List Nd):Nat→List T→Prop
 | _,[]=>True
 | a,t::r=>StT nodes a t∧StL nodes (a+szT t) r
end
mutual
def atT:T→Prop
 | .mk n l=>0≤n.at_∧atTs l
def atTs:List T→Prop
 | []=>True
 | t::r=>atT t∧atTs r
end
theorem szT_pos (t:T):1≤szT t:=by rw [szT_eq];omega
mutual
theorem StT.le {nodes:List Nd}:∀ (t:T) (a:Nat),StT nodes a t→a+szT t≤nodes.length
 | .mk n l,a,h=>by
  rw [StT] at h
  have h1:=(List.getElem?_eq_some_iff.1 h.1).1
  have:=StL.le l (a+1) h.2.2 h1
  rw [szT];omega
theorem StL.le {nodes:List Nd}:∀ (l:List T) (a:Nat),StL nodes a l→a≤nodes.length→a+szL l≤nodes.length
 | [],a,h,ha=>by rw [szL];exact ha
 | t::r,a,h,ha=>by
  rw [StL] at h
  have h1:=StT.le t a h.1
  have:=StL.le r _ h.2 h1
  rw [szL];omega
end
theorem endN_st {nodes:List Nd}:∀ (f:Nat),(∀ (a d:Nat) (e:Int),endN nodes f a d=some e→0≤e→∃ t,StT nodes a t∧e=((a+szT t:Nat):Int)) ∧
  (∀ (ks:List Int) (next d:Nat) (e:Int),endL nodes f ks (next:Int) d=some e→0≤e→∃ l,StL nodes next l∧ks=kidsAt next l∧e=((next+szL l:Nat):Int)):=by
 intro f
 induction f with
 | zero =>
  refine ⟨fun a d e h _=>by simp [endN] at h,fun ks next d e h _=>?_⟩
  cases ks with
  | nil=>rw [endL] at h;cases h;exact ⟨[],trivial,rfl,by simp [szL]⟩
  | cons k r=>simp [endL] at h
 | succ f ih =>
  refine ⟨fun a d e h he=>?_,fun ks next d e h he=>?_⟩
  ·rw [endN] at h
   split at h
   ·cases h;omega
   ·cases hn:nodes[a]? with
    | none=>rw [hn] at h;cases h
    | some n =>
     rw [hn] at h
     simp only at h
     rw [show ((a:Int)+1)=((a+1:Nat):Int) by omega] at h
     obtain ⟨l,h1,h2,h3⟩:=ih.2 _ _ _ _ h he
     exact ⟨.mk n l,by rw [StT];exact ⟨hn,h2,h1⟩,by rw [h3,szT];omega⟩
  ·cases ks with
   | nil=>rw [endL] at h;cases h;exact ⟨[],trivial,rfl,by simp [szL]⟩
   | cons k r =>
    rw [endL] at h
    split at h
    ·rename_i hk
     subst hk
     rw [Int.toNat_natCast] at h
     cases hq:endN nodes f next (d+1) with
     | none=>rw [hq] at h;cases h
     | some e1 =>
      rw [hq] at h
      simp only at h
      split at h
      ·cases h;omega
      ·rename_i h0
       obtain ⟨t,h1,h2⟩:=ih.1 _ _ _ hq (by omega)
       subst h2
       obtain ⟨l,h3,h4,h5⟩:=ih.2 _ _ _ _ h he
       refine ⟨t::l,by rw [StL];exact ⟨h1,h3⟩,by rw [kidsAt,←h4],by rw [h5,szL];omega⟩
    ·cases h;omega
theorem sub_st {nodes:List Nd}:∀ (f:Nat),(∀ (t:T) (a:Nat),StT nodes a t→2 * szT t≤f→sub nodes f a=some t) ∧
  (∀ (l:List T) (a:Nat) (acc:List T),StL nodes a l→2 * szL l+1≤f→subs nodes f (kidsAt a l) acc=some (acc++l)):=by
 intro f
 induction f with
 | zero =>
  exact ⟨fun t a _ h=>by have:=szT_pos t;omega,fun l a acc _ h=>by omega⟩
 | succ f ih =>
  refine ⟨fun t a hs h=>?_,fun l a acc hs h=>?_⟩
  ·obtain ⟨n,l⟩:=t
   rw [StT] at hs
   rw [szT] at h
   rw [sub,hs.1]
   simp only
   rw [hs.2.1,ih.2 l (a+1) [] hs.2.2 (by omega)]
   rfl
  ·cases l with
   | nil=>rw [kidsAt,subs];simp
   | cons t l =>
    rw [StL] at hs
    rw [szL] at h
    have:=szT_pos t
    rw [kidsAt,subs,if_neg (by omega),Int.toNat_natCast,ih.1 t a hs.1 (by omega)]
    simp only
    rw [ih.2 l _ _ hs.2 (by omega)]
    simp
theorem trN_st {nodes:List Nd}:∀ (f:Nat) (t:T) (a:Nat),StT nodes a t→atT t→szT t≤f→trN nodes f a=some (t,a+szT t):=by
 intro f
 induction f with
 | zero=>intro t a _ _ h;have:=szT_pos t;omega
 | succ f ih =>
  intro t a hs ha h
  obtain ⟨n,l⟩:=t
  have key:∀ (l:List T) (a:Nat) (acc:List T),StL nodes a l→atTs l→szL l≤f→trK (trN nodes f) (kidsAt a l) a acc=some (acc++l,a+szL l):=by
   intro l
   induction l with
   | nil=>intro a acc _ _ _;rw [kidsAt,trK,szL];simp
   | cons t l ih2 =>
    intro a acc hs ha h
    rw [StL] at hs
    rw [atTs] at ha
    rw [szL] at h
    rw [kidsAt,trK,if_pos rfl,ih t a hs.1 ha.1 (by omega)]
    simp only
    rw [ih2 _ _ hs.2 ha.2 (by omega),szL]
    simp [Nat.add_assoc]
  rw [StT] at hs
  rw [atT] at ha
  rw [szT] at h
  rw [trN,hs.1]
  simp only
  rw [hs.2.1,key l (a+1) [] hs.2.2 ha.2 (by omega)]
  simp only
  rw [if_neg (by omega),szT]
  simp only [List.nil_append,Option.some.injEq,Prod.mk.injEq,true_and]
  omega
theorem st_trN {nodes:List Nd}:∀ (f:Nat) (t:T) (a e:Nat),trN nodes f a=some (t,e)→StT nodes a t∧e=a+szT t∧atT t:=by
 intro f
 induction f with
 | zero=>intro t a e h;cases h
 | succ f ih =>
  intro t a e h
  have key:∀ (ks:List Int) (next:Nat) (acc l:List T) (e:Nat),trK (trN nodes f) ks next acc=some (l,e)→∃ l',l=acc++l'∧StL nodes next l'∧ks=kidsAt next l'∧e=next+szL l'∧atTs l':=by
   intro ks
   induction ks with
   | nil=>intro next acc l e h;rw [trK] at h;cases h;exact ⟨[],by simp,trivial,rfl,by simp [szL],trivial⟩
   | cons k r ih2 =>
    intro next acc l e h
    rw [trK] at h
    split at h
    ·rename_i hk
     cases hq:trN nodes f next with
     | none=>rw [hq] at h;cases h
     | some x =>
      obtain ⟨t,e1⟩:=x
      rw [hq] at h
      simp only at h
      obtain ⟨a1,a2,a3⟩:=ih _ _ _ hq
      subst a2
      obtain ⟨l',b1,b2,b3,b4,b5⟩:=ih2 _ _ _ _ h
      exact ⟨t::l',by rw [b1];simp,by rw [StL];exact ⟨a1,b2⟩,by rw [kidsAt,hk,b3],by rw [b4,szL];omega,by rw [atTs];exact ⟨a3,b5⟩⟩
    ·cases h
  rw [trN] at h
  cases hn:nodes[a]? with
  | none=>rw [hn] at h;cases h
  | some n =>
   rw [hn] at h
   simp only at h
   cases hk:trK (trN nodes f) n.kids (a+1) [] with
   | none=>rw [hk] at h;cases h
   | some x =>
    obtain ⟨l,e1⟩:=x
    rw [hk] at h
    simp only at h
    split at h
    ·cases h
    ·rename_i h0
     cases h
     obtain ⟨l',b1,b2,b3,b4,b5⟩:=key _ _ _ _ _ hk
     have:l'=l:=by rw [b1];rfl
     subst this
     exact ⟨by rw [StT];exact ⟨hn,b3,b2⟩,by rw [b4,szT];omega,by rw [atT];exact ⟨by omega,b5⟩⟩
theorem endN_of {nodes:List Nd} (hl:nodes.length≤800):∀ (f:Nat),(∀ (t:T) (a d:Nat),StT nodes a t→d≤a→2 * szT t≤f→endN nodes f a d=some ((a+szT t:Nat):Int)) ∧
  (∀ (l:List T) (a d:Nat),StL nodes a l→d < a→2 * szL l+1≤f→endL nodes f (kidsAt a l) (a:Int) d=some ((a+szL l:Nat):Int)):=by
 intro f
 induction f with
 | zero =>
  exact ⟨fun t a d _ _ h=>by have:=szT_pos t;omega,fun l a d _ _ h=>by omega⟩
 | succ f ih =>
  refine ⟨fun t a d hs hd h=>?_,fun l a d hs hd h=>?_⟩
  ·obtain ⟨n,l⟩:=t
   rw [StT] at hs
   rw [szT] at h ⊢
   have hlt:=(List.getElem?_eq_some_iff.1 hs.1).1
   rw [endN,if_neg (by omega),hs.1]
   simp only
   rw [show ((a:Int)+1)=((a+1:Nat):Int) by omega,hs.2.1,ih.2 l (a+1) d hs.2.2 (by omega) (by omega)]
   congr 1;omega
  ·cases l with
   | nil=>rw [kidsAt,endL,szL];simp
   | cons t l =>
    rw [StL] at hs
    rw [szL] at h ⊢
    have:=szT_pos t
    rw [kidsAt,endL,if_pos rfl,Int.toNat_natCast,ih.1 t a (d+1) hs.1 (by omega) (by omega)]
    simp only
    rw [if_neg (by omega),ih.2 l _ d hs.2 (by omega) (by omega)]
    congr 1;omega
theorem endN_some {nodes:List Nd}:∀ (f:Nat),(∀ (a d:Nat),2 * (nodes.length - a)+1≤f→∃ e,endN nodes f a d=some e∧(0≤e→(a:Int) < e∧a < nodes.length)) ∧
  (∀ (ks:List Int) (next d:Nat),2 * (nodes.length - next)+2≤f→∃ e,endL nodes f ks (next:Int) d=some e∧(0≤e→(next:Int)≤e)):=by
 intro f
 induction f with
 | zero=>exact ⟨fun a d h=>by omega,fun ks next d h=>by omega⟩
 | succ f ih =>
  refine ⟨fun a d h=>?_,fun ks next d h=>?_⟩
  ·rw [endN]
   split
   ·exact ⟨-1,rfl,fun h=>by omega⟩
   ·rename_i hc
    cases hn:nodes[a]? with
    | none=>rw [List.getElem?_eq_none_iff] at hn;omega
    | some n =>
     simp only
     rw [show ((a:Int)+1)=((a+1:Nat):Int) by omega]
     obtain ⟨e,h1,h2⟩:=ih.2 n.kids (a+1) d (by omega)
     exact ⟨e,h1,fun h=>⟨by have:=h2 h;omega,by omega⟩⟩
  ·cases ks with
   | nil=>rw [endL];exact ⟨_,rfl,fun _=>Int.le_refl _⟩
   | cons k r =>
    rw [endL]
    split
    ·rename_i hk
     subst hk
     rw [Int.toNat_natCast]
     obtain ⟨e,h1,h2⟩:=ih.1 next (d+1) (by omega)
     rw [h1]
     simp only
     split
     ·exact ⟨-1,rfl,fun h=>by omega⟩
     ·rename_i h0
      have h3:=h2 (by omega)
      obtain ⟨m,rfl⟩:∃ m:Nat,e=(m:Int):=⟨e.toNat,by omega⟩
      obtain ⟨e',h4,h5⟩:=ih.2 r m d (by omega)
      exact ⟨e',h4,fun h=>by have:=h5 h;omega⟩
    ·exact ⟨-1,rfl,fun h=>by omega⟩
def FSq (Q:Fn→T→Prop):List Fn→Nat→List T→Prop
 | [],_,[]=>True
 | f::r,a,t::l=>f.body=(a:Int)∧Q f t∧FSq Q r (a+szT t) l
 | _,_,_=>False
theorem FSq.len {Q:Fn→T→Prop}:∀ {fns:List Fn} {a:Nat} {l:List T},FSq Q fns a l→fns.length=l.length
 | [],_,[],_=>rfl
 | f::r,a,t::l,h=>by rw [FSq] at h;rw [List.length_cons,List.length_cons,FSq.len h.2.2]
 | [],_,t::l,h=>by cases h
 | f::r,_,[],h=>by cases h
theorem FSq.mono {Q R:Fn→T→Prop}:∀ {fns:List Fn} {a:Nat} {l:List T},FSq Q fns a l→(∀ f t,f∈fns→t∈l→Q f t→R f t)→FSq R fns a l
 | [],_,[],_,_=>trivial
 | f::r,a,t::l,h,hq=>by
  rw [FSq] at h ⊢
  exact ⟨h.1,hq _ _ List.mem_cons_self List.mem_cons_self h.2.1,FSq.mono h.2.2 fun f t hf ht=>hq f t (List.mem_cons_of_mem _ hf) (List.mem_cons_of_mem _ ht)⟩
 | [],_,t::l,h,_=>by cases h
 | f::r,_,[],h,_=>by cases h
theorem FSq.at_ {Q:Fn→T→Prop}:∀ {fns:List Fn} {a:Nat} {l:List T},FSq Q fns a l→∀ (i:Nat) f t,fns[i]?=some f→l[i]?=some t→f.body=((a+szL (l.take i):Nat):Int)∧Q f t
 | [],_,[],_,i,f,t,h1,h2=>by simp at h1
 | f::r,a,t::l,h,i,f',t',h1,h2=>by
  rw [FSq] at h
  cases i with
  | zero=>cases h1;cases h2;rw [List.take_zero,szL];exact ⟨h.1,h.2.1⟩
  | succ i =>
   obtain ⟨k1,k2⟩:=FSq.at_ h.2.2 i f' t' (by simpa using h1) (by simpa using h2)
   exact ⟨by rw [k1,List.take_succ_cons,szL];omega,k2⟩
 | [],_,t::l,h,_,_,_,_,_=>by cases h
 | f::r,_,[],h,_,_,_,_,_=>by cases h
structure FnOk (f:Fn) (t:T):Prop where
 name:nameOk f.name=true
 params:namesOk f.params=true
 kind:t.n.kind=14
 all:allT t=true
theorem fnsStand_st {nodes:List Nd}:∀ (fns:List Fn) (next:Nat) (e:Int),fnsStand nodes fns (next:Int)=some (some e)→∃ l,StL nodes next l∧FSq FnOk fns next l∧e=((next+szL l:Nat):Int)
 | [],next,e,h=>by rw [fnsStand] at h;cases h;exact ⟨[],trivial,trivial,by simp [szL]⟩
 | f::r,next,e,h=>by
  rw [fnsStand,Int.toNat_natCast] at h
  cases hn:endN nodes (fN nodes) next 0 with
  | none=>rw [hn] at h;cases h
  | some e1 =>
   rw [hn] at h
   simp only at h
   split at h
   ·cases h
   ·rename_i hc
    split at h
    ·cases h
    ·rename_i hp
     obtain ⟨t,h1,h2⟩:=(endN_st _).1 _ _ _ hn (by omega)
     have hle:=StT.le t _ h1
     rw [(sub_st _).1 t next h1 (by unfold fN;omega)] at h
     simp only at h
     split at h
     ·cases h
     ·rename_i hk
      subst h2
      obtain ⟨l,k1,k2,k3⟩:=fnsStand_st r _ e h
      refine ⟨t::l,by rw [StL];exact ⟨h1,k1⟩,?_,by rw [k3,szL];omega⟩
      rw [FSq]
      refine ⟨by omega,⟨?_,?_,?_,?_⟩,k2⟩
      ·cases hq:nameOk f.name with
       | true=>rfl
       | false=>exact absurd (.inr (.inl hq)) hc
      ·simpa using hp
      ·exact Decidable.byContradiction fun hq=>hk (.inl hq)
      ·cases hq:allT t with
       | true=>rfl
       | false=>exact absurd (.inr hq) hk
theorem fnsStand_of {nodes:List Nd} (hl:nodes.length≤800):∀ (fns:List Fn) (next:Nat) (l:List T),StL nodes next l→FSq FnOk fns next l→fnsStand nodes fns (next:Int)=some (some ((next+szL l:Nat):Int))
 | [],next,[],_,_=>by rw [fnsStand,szL];rfl
 | f::r,next,t::l,h,hf=>by
  rw [StL] at h
  rw [FSq] at hf
  have hle:=StT.le t _ h.1
  rw [fnsStand,Int.toNat_natCast,(endN_of hl _).1 t next 0 h.1 (Nat.zero_le _) (by unfold fN;omega)]
  simp only
  rw [if_neg (by rw [hf.2.1.name];rintro (h | h | h);exact h hf.1;cases h;omega),if_neg (by rw [hf.2.1.params];decide),(sub_st _).1 t next h.1 (by unfold fN;omega)]
  simp only
  rw [if_neg (by rw [hf.2.1.all];rintro (h | h);exact h hf.2.1.kind;cases h),fnsStand_of hl r _ l h.2 hf.2.2,szL]
  congr 2;omega
 | [],_,t::l,_,h=>by cases h
 | f::r,_,[],_,h=>by cases h
theorem fnsStand_some {nodes:List Nd}:∀ (fns:List Fn) (next:Nat),∃ r,fnsStand nodes fns (next:Int)=some r
 | [],next=>⟨_,by rw [fnsStand]⟩
 | f::r,next=>by
  obtain ⟨e,h1,h2⟩:=(endN_some (nodes:=nodes) (fN nodes)).1 next 0 (by unfold fN;omega)
  rw [fnsStand,Int.toNat_natCast,h1]
  simp only
  split
  ·exact ⟨_,rfl⟩
  ·rename_i hc
   split
   ·exact ⟨_,rfl⟩
   ·obtain ⟨t,k1,k2⟩:=(endN_st _).1 _ _ _ h1 (by omega)
    have hle:=StT.le t _ k1
    rw [(sub_st _).1 t next k1 (by unfold fN;omega)]
    simp only
    split
    ·exact ⟨_,rfl⟩
    ·rw [k2];exact fnsStand_some r _
theorem stand_some (p:Src):∃ b,stand p=some b:=by
 unfold stand
 split
 ·exact ⟨_,rfl⟩
 ·split
  ·exact ⟨_,rfl⟩
  ·obtain ⟨r,h⟩:=fnsStand_some (nodes:=p.nodes) p.fns 0
   rw [show ((0:Nat):Int)=0 from rfl] at h
   rw [h]
   cases r <;> exact ⟨_,rfl⟩
structure Stands (p:Src) (l:List T):Prop where
 globals:namesOk p.globals=true
 arrays:p.arrays.all arOk=true
 st:StL p.nodes 0 l
 fns:FSq FnOk p.fns 0 l
 len:szL l=p.nodes.length
 few:p.nodes.length≤800
theorem stand_t {p:Src} (h:stand p=some true):∃ l,Stands p l:=by
 unfold stand at h
 split at h
 ·cases h
 ·rename_i h1
  split at h
  ·cases h
  ·rename_i h2
   rw [show (0:Int)=((0:Nat):Int) from rfl] at h
   cases hf:fnsStand p.nodes p.fns ((0:Nat):Int) with
   | none=>rw [hf] at h;cases h
   | some r =>
    rw [hf] at h
    cases r with
    | none=>cases h
    | some e =>
     obtain ⟨l,k1,k2,k3⟩:=fnsStand_st _ _ _ hf
     simp only [Option.some.injEq,Bool.and_eq_true,beq_iff_eq,decide_eq_true_eq] at h
     exact ⟨l,by simpa using h1,by simpa using h2,k1,k2,by omega,by omega⟩
theorem Stands.stand {p:Src} {l:List T} (h:Stands p l):stand p=some true:=by
 unfold Go.Sp.stand
 rw [if_neg (by rw [h.globals];decide),if_neg (by rw [h.arrays];decide),show (0:Int)=((0:Nat):Int) from rfl,fnsStand_of h.few _ _ _ h.st h.fns]
 simp only [Option.some.injEq,Bool.and_eq_true,beq_iff_eq,decide_eq_true_eq]
 have:=h.len;have:=h.few
 omega
theorem bodI_st {nodes:List Nd}:∀ (fns:List Fn) (next:Nat) (acc l:List T) (e:Nat),bodI nodes fns next acc=some (l,e)→∃ l',l=acc++l'∧StL nodes next l'∧FSq (fun _ _=>True) fns next l'∧e=next+szL l'∧atTs l'
 | [],next,acc,l,e,h=>by rw [bodI] at h;cases h;exact ⟨[],by simp,trivial,trivial,by simp [szL],trivial⟩
 | f::r,next,acc,l,e,h=>by
  rw [bodI] at h
  cases hq:tr nodes next with
  | none=>rw [hq] at h;cases h
  | some x =>
   obtain ⟨t,e1⟩:=x
   rw [hq] at h
   simp only at h
   split at h
   ·rename_i hb
    obtain ⟨a1,a2,a3⟩:=st_trN _ _ _ _ hq
    subst a2
    obtain ⟨l',b1,b2,b3,b4,b5⟩:=bodI_st r _ _ _ _ h
    exact ⟨t::l',by rw [b1];simp,by rw [StL];exact ⟨a1,b2⟩,by rw [FSq];exact ⟨hb,trivial,b3⟩,by rw [b4,szL];omega,by rw [atTs];exact ⟨a3,b5⟩⟩
   ·cases h
theorem bodI_of {nodes:List Nd} {Q:Fn→T→Prop}:∀ (fns:List Fn) (next:Nat) (acc l:List T),StL nodes next l→FSq Q fns next l→atTs l→bodI nodes fns next acc=some (acc++l,next+szL l)
 | [],next,acc,[],_,_,_=>by rw [bodI,szL];simp
 | f::r,next,acc,t::l,h,hf,ha=>by
  rw [StL] at h
  rw [FSq] at hf
  rw [atTs] at ha
  have hle:=StT.le t _ h.1
  rw [bodI,tr,trN_st _ t next h.1 ha.1 (by omega)]
  simp only
  rw [if_pos hf.1,bodI_of r _ _ l h.2 hf.2.2 ha.2,szL]
  simp [Nat.add_assoc]
 | [],_,_,t::l,_,h,_=>by cases h
 | f::r,_,_,[],_,h,_=>by cases h
mutual
theorem StT.fl {nodes:List Nd}:∀ (t:T) (a:Nat),StT nodes a t→(nodes.take (a+szT t)).drop a=flT a t
 | .mk n l,a,h=>by
  have hle:=StT.le _ _ h
  rw [StT] at h
  rw [szT] at hle
  have h1:=StL.fl l (a+1) h.2.2 (by have:=(List.getElem?_eq_some_iff.1 h.1).1;omega)
  rw [flT,←h.2.1,←h1,szT,show a+(szL l+1)=a+1+szL l by omega]
  have h2:(nodes.take (a+1+szL l))[a]?=some n:=by rw [List.getElem?_take,if_pos (by omega)];exact h.1
  obtain ⟨h3,h4⟩:=List.getElem?_eq_some_iff.1 h2
  rw [List.drop_eq_getElem_cons h3,h4]
theorem StL.fl {nodes:List Nd}:∀ (l:List T) (a:Nat),StL nodes a l→a≤nodes.length→(nodes.take (a+szL l)).drop a=flL a l
 | [],a,h,ha=>by
  rw [flL]
  exact List.eq_nil_of_length_eq_zero (by rw [szL,List.length_drop,List.length_take];omega)
 | t::r,a,h,ha=>by
  rw [StL] at h
  have hle:=StT.le _ _ h.1
  have h1:=StT.fl t a h.1
  have h2:=StL.fl r (a+szT t) h.2 hle
  have hle2:=StL.le r _ h.2 hle
  rw [flL,←h1,←h2,szL,show a+(szT t+szL r)=a+szT t+szL r by omega]
  have h3:nodes.take (a+szT t)=(nodes.take (a+szT t+szL r)).take (a+szT t):=by rw [List.take_take,Nat.min_eq_left (by omega)]
  rw [h3]
  generalize hm:nodes.take (a+szT t+szL r)=m
  have hml:m.length=a+szT t+szL r:=by rw [←hm,List.length_take];omega
  rw [←List.drop_append_of_le_length (by rw [List.length_take];omega),List.take_append_drop]
end
theorem StL.all {nodes:List Nd} {l:List T} (h:StL nodes 0 l) (hl:szL l=nodes.length):nodes=flL 0 l:=by
 have:=StL.fl l 0 h (Nat.zero_le _)
 rw [Nat.zero_add,hl,List.take_length,List.drop_zero] at this
 exact this
end Go.Im
namespace Go.Im
open Go.Xp Go.Sp
def itoaI (n:Int):Str:=if n < 0 then 45::digs n.natAbs else digs n.toNat
def lvI (s:Str):Int:=match levels.findIdx? (fun l=>l.contains s) with | some i=>(i:Int) | none => -1
def brI (b:Bool) (x:Str):Str:=if b=true then (40::x)++[41] else x
def lessI (t:T) (least:Int):Bool:=(t.n.kind==6)&&decide (lvI t.n.s < least)
def tiN (n:Nd) (l:List T) (x:List Str):Str :=
 if n.kind=1 then itoaI n.n
 else if n.kind=3 then ((n.s++[91])++x.getD 0 [])++[93]
 else if n.kind=4 then ((n.s++[40])++joinC x)++[41]
 else if n.kind=5 then (n.s++[32])++(match l with | a::_=>brI (a.n.kind==6) (x.getD 0 []) | []=>[])
 else if n.kind=6 then (match l with
  | a::b::_=>(((brI (lessI a (lvI n.s)) (x.getD 0 [])++[32])++n.s)++[32])++brI (lessI b (lvI n.s+1)) (x.getD 1 [])
  | _=>[])
 else n.s
mutual
def tiT:T→Str
 | .mk n l=>tiN n l (tiL l)
def tiL:List T→List Str
 | []=>[]
 | t::r=>tiT t::tiL r
end
theorem tiT_eq (t:T):tiT t=tiN t.n t.kids (tiL t.kids):=by cases t;rw [tiT];rfl
theorem tiL_map (l:List T):tiL l=l.map tiT:=by
 induction l with
 | nil=>rfl
 | cons t l ih=>rw [tiL,ih];rfl
mutual
def wtI:T→Nat
 | .mk n l=>n.s.length+60+wtIs l
def wtIs:List T→Nat
 | []=>0
 | t::r=>wtI t+wtIs r
end
theorem wtI_eq (t:T):wtI t=t.n.s.length+60+wtIs t.kids:=by cases t;rw [wtI];rfl
theorem wtIs_mem {l:List T} {t:T} (h:t∈l):wtI t≤wtIs l:=by
 induction l with
 | nil=>cases h
 | cons a l ih =>
  rw [wtIs]
  rcases List.mem_cons.1 h with rfl | h
  ·omega
  ·have:=ih h;omega
theorem len_wtIs (l:List T):l.length * 60≤wtIs l:=by
 induction l with
 | nil=>simp
 | cons t l ih=>rw [wtIs,wtI_eq,List.length_cons];omega
theorem digs_le20 {n:Nat} (h:n < 100000000000000000000):(digs n).length≤20:=digs_le 19 n (by simpa using h)
theorem itoaI_len {n:Int} (h : -9223372036854775808≤n∧n≤9223372036854775807):(itoaI n).length≤21:=by
 unfold itoaI
 split
 ·have:=digs_le20 (n:=n.natAbs) (by omega)
  simp only [List.length_cons];omega
 ·have:=digs_le20 (n:=n.toNat) (by omega)
  omega
theorem brI_len (b:Bool) (x:Str):(brI b x).length≤x.length+2:=by
 unfold brI;split <;> simp
theorem flat_len:∀ (r:List Str),(r.flatMap fun y=>44::32::y).length=(r.map fun y=>y.length+2).sum
 | []=>rfl
 | z::r=>by
  have:=flat_len r
  simp only [List.flatMap_cons,List.length_append,List.map_cons,List.sum_cons,List.length_cons] at this ⊢
  omega
theorem joinC_le:∀ (x:List Str),(joinC x).length≤(x.map fun y=>y.length+2).sum
 | []=>by simp [joinC]
 | y::r=>by
  have h:=flat_len r
  rw [List.map_cons,List.sum_cons,joinC,List.length_append,h];omega
mutual
def numT:T→Prop
 | .mk n l=>(-9223372036854775808≤n.n∧n.n≤9223372036854775807)∧numTs l
def numTs:List T→Prop
 | []=>True
 | t::r=>numT t∧numTs r
end
theorem numT_eq (t:T):numT t↔(-9223372036854775808≤t.n.n∧t.n.n≤9223372036854775807)∧numTs t.kids:=by cases t;rw [numT];exact Iff.rfl
theorem numTs_mem {l:List T} {t:T} (h:numTs l) (ht:t∈l):numT t:=by
 induction l with
 | nil=>cases ht
 | cons a l ih =>
  rw [numTs] at h
  rcases List.mem_cons.1 ht with rfl | ht
  ·exact h.1
  ·exact ih h.2 ht
theorem tiT_len:∀ (N:Nat) (t:T),szT t≤N→numT t→(tiT t).length+4≤wtI t:=by
 intro N
 induction N with
 | zero=>intro t h;rw [szT_eq] at h;omega
 | succ N ih =>
  intro t hN hn
  rw [szT_eq] at hN
  rw [numT_eq] at hn
  have hk:∀ a∈t.kids,(tiT a).length+4≤wtI a:=fun a ha=>by
   refine ih a ?_ (numTs_mem hn.2 ha)
   have:∀ (l:List T),a∈l→szT a≤szL l:=by
    intro l
    induction l with
    | nil=>intro h;cases h
    | cons b l ih2 =>
     intro h
     rw [szL]
     rcases List.mem_cons.1 h with rfl | h
     ·omega
     ·have:=ih2 h;omega
   have:=this _ ha;omega
  have hsum:((tiL t.kids).map fun y=>y.length+2).sum≤wtIs t.kids:=by
   have:∀ (l:List T),(∀ a∈l,(tiT a).length+4≤wtI a)→((tiL l).map fun y=>y.length+2).sum≤wtIs l:=by
    intro l
    induction l with
    | nil=>intro _;simp [tiL]
    | cons a l ih2 =>
     intro h
     have h1:=h a (List.mem_cons_self)
     have h2:=ih2 fun b hb=>h b (List.mem_cons_of_mem _ hb)
     rw [tiL,wtIs,List.map_cons,List.sum_cons];omega
   exact this _ hk
  have h0:((tiL t.kids).getD 0 []).length≤wtIs t.kids:=by
   cases hl:t.kids with
   | nil=>simp [tiL]
   | cons a r =>
    have:=hk a (by rw [hl];exact List.mem_cons_self)
    rw [tiL,wtIs];simp;omega
  have h01:∀ a b r,t.kids=a::b::r→((tiL t.kids).getD 0 []).length+((tiL t.kids).getD 1 []).length+8≤wtIs t.kids:=fun a b r hl=>by
   have h1:=hk a (by rw [hl];exact List.mem_cons_self)
   have h2:=hk b (by rw [hl];exact List.mem_cons_of_mem _ List.mem_cons_self)
   rw [hl,tiL,tiL,wtIs,wtIs];simp;omega
  rw [tiT_eq,wtI_eq]
  unfold tiN
  split
  ·have:=itoaI_len hn.1;omega
  ·split
   ·simp only [List.length_append,List.length_cons,List.length_nil];omega
   ·split
    ·have:=joinC_le (tiL t.kids)
     simp only [List.length_append,List.length_cons,List.length_nil];omega
    ·split
     ·cases hl:t.kids with
      | nil=>simp <;> omega
      | cons a r =>
       simp only [List.length_append,List.length_cons,List.length_nil]
       have:=brI_len (a.n.kind==6) ((tiL (a::r)).getD 0 [])
       rw [hl] at h0;omega
     ·split
      ·match hl:t.kids with
       | []=>simp <;> omega
       | [a]=>simp <;> omega
       | a::b::r =>
        have h1:=h01 a b r hl
        rw [hl] at h1
        have h2:=brI_len (lessI a (lvI t.n.s)) ((tiL (a::b::r)).getD 0 [])
        have h3:=brI_len (lessI b (lvI t.n.s+1)) ((tiL (a::b::r)).getD 1 [])
        simp only [List.length_append,List.length_cons,List.length_nil];omega
      ·omega
end Go.Im
namespace Go.Im
open Go.Xp Go.Sp
def stN (own:Str) (n:Nd) (k:Nat) (x b:List Str):Str :=
 if n.kind=13 then ((([118,97,114,32]++n.s)++[32,61,32])++x.getD 0 [])++[59]
 else if n.kind=7 then ((n.s++[32,61,32])++x.getD 0 [])++[59]
 else if n.kind=8 then ((((n.s++[91])++x.getD 0 [])++[93,32,61,32])++x.getD 1 [])++[59]
 else if n.kind=9 then (if k=3 then ((([105,102,32,40]++x.getD 0 [])++[41,32])++b.getD 1 [])++([32,101,108,115,101,32]++b.getD 2 []) else (([105,102,32,40]++x.getD 0 [])++[41,32])++b.getD 1 [])
 else if n.kind=10 then (([119,104,105,108,101,32,40]++x.getD 0 [])++[41,32])++b.getD 1 []
 else if n.kind=11 then ([114,101,116,117,114,110,32]++x.getD 0 [])++[59]
 else if n.kind=12 then x.getD 0 []++[59]
 else own
section
variable (tx:T→Str) (inl:List Str→Nat→Str)
mutual
def stT:Nat→T→Str
 | d,.mk n l=>stN (tx (.mk n l)) n l.length (l.map tx) (blL d l)
def blL:Nat→List T→List Str
 | _,[]=>[]
 | d,t::r=>blT d t::blL d r
def blT:Nat→T→Str
 | d,.mk n l=>inl (stL (d+1) l) d
def stL:Nat→List T→List Str
 | _,[]=>[]
 | d,t::r=>stT d t::stL d r
end
end
theorem stT_eq (tx:T→Str) (inl:List Str→Nat→Str) (d:Nat) (t:T):stT tx inl d t=stN (tx t) t.n t.kids.length (t.kids.map tx) (blL tx inl d t.kids):=by cases t;rw [stT];rfl
theorem blT_eq (tx:T→Str) (inl:List Str→Nat→Str) (d:Nat) (t:T):blT tx inl d t=inl (stL tx inl (d+1) t.kids) d:=by cases t;rw [blT];rfl
theorem blL_map (tx:T→Str) (inl:List Str→Nat→Str) (d:Nat) (l:List T):blL tx inl d l=l.map (blT tx inl d):=by
 induction l with
 | nil=>rfl
 | cons t l ih=>rw [blL,ih];rfl
theorem stL_map (tx:T→Str) (inl:List Str→Nat→Str) (d:Nat) (l:List T):stL tx inl d l=l.map (stT tx inl d):=by
 induction l with
 | nil=>rfl
 | cons t l ih=>rw [stL,ih];rfl
def catB (acc:Str) (l:List Str):Str:=l.foldl (fun acc s=>acc++(s++[32])) acc
def inl1 (l:List Str) (d:Nat):Str:=catB [123,32] l++[125]
def sumB:List Str→Nat
 | []=>0
 | s::l=>s.length+1+sumB l
theorem catB_len (l:List Str):∀ acc,(catB acc l).length=acc.length+sumB l:=by
 induction l with
 | nil=>intro acc;simp [catB,sumB]
 | cons s l ih =>
  intro acc
  have:=ih (acc++(s++[32]))
  simp only [catB,List.foldl_cons,sumB,List.length_append,List.length_cons,List.length_nil] at this ⊢
  omega
theorem sumB_app (a b:List Str):sumB (a++b)=sumB a+sumB b:=by
 induction a with
 | nil=>simp [sumB]
 | cons s a ih=>simp only [List.cons_append,sumB,ih];omega
theorem sumB_take (l:List Str) (k:Nat):sumB (l.take k)≤sumB l:=by
 have:sumB l=sumB (l.take k)+sumB (l.drop k):=by rw [←sumB_app,List.take_append_drop]
 omega
theorem catB_snoc (acc:Str) (l:List Str) (s:Str):catB acc (l++[s])=catB acc l++(s++[32]):=by simp [catB]
theorem sum_mem {l:List Str} {s:Str} (h:s∈l):s.length≤sumB l:=by
 induction l with
 | nil=>cases h
 | cons a l ih =>
  rw [sumB]
  rcases List.mem_cons.1 h with rfl | h
  ·omega
  ·have:=ih h;omega
theorem inl1_mem {l:List Str} {d:Nat} {s:Str} (h:s∈l):s.length≤(inl1 l d).length:=by
 have h1:=sum_mem h
 have h2:=catB_len l [123,32]
 unfold inl1
 rw [List.length_append,h2];omega
end Go.Im
namespace Go.Im
open Go.Xp Go.Sp
def g1 (s:Str):Str:=([105,110,116,32]++s)++[59,10]
def a1 (a:Ar):Str:=((([105,110,116,32]++a.name)++[91])++itoaI a.size)++[93,59,10]
def f1 (tx:T→Str) (inl:List Str→Nat→Str) (x:Fn × T):Str:=((((([102,117,110,99,32]++x.1.name)++[40])++joinC x.1.params)++[41,32])++blT tx inl 0 x.2)++[10]
def catF {α:Type} (f:α→Str):Str→List α→Str
 | acc,[]=>acc
 | acc,x::l=>catF f (acc++f x) l
theorem catF_snoc {α:Type} (f:α→Str) (l:List α) (x:α):∀ acc,catF f acc (l++[x])=catF f acc l++f x:=by
 induction l with
 | nil=>intro acc;rfl
 | cons y l ih=>intro acc;simp only [List.cons_append,catF];exact ih _
theorem catF_app {α:Type} (f:α→Str) (l k:List α):∀ acc,catF f acc (l++k)=catF f (catF f acc l) k:=by
 induction l with
 | nil=>intro acc;rfl
 | cons y l ih=>intro acc;simp only [List.cons_append,catF];exact ih _
theorem catF_ge {α:Type} (f:α→Str) (l:List α):∀ acc,acc.length≤(catF f acc l).length:=by
 induction l with
 | nil=>intro acc;exact Nat.le_refl _
 | cons y l ih=>intro acc;have:=ih (acc++f y);rw [catF];rw [List.length_append] at this;omega
theorem catF_take {α:Type} (f:α→Str) (l:List α) (k:Nat) (acc:Str):(catF f acc (l.take k)).length≤(catF f acc l).length:=by
 have:catF f acc l=catF f (catF f acc (l.take k)) (l.drop k):=by rw [←catF_app,List.take_append_drop]
 rw [this];exact catF_ge f _ _
def layT (tx:T→Str) (inl:List Str→Nat→Str) (p:Src) (trees:List T):Str:=catF (f1 tx inl) (catF a1 (catF g1 [] p.globals) p.arrays) (p.fns.zip trees)
end Go.Im
namespace Go.Im
def eqL {α:Type} (p:α→α→Bool):List α→List α→Bool
 | [],[]=>true
 | a::r,b::s=>p a b&&eqL p r s
 | _,_=>false
theorem eqL_len {α:Type} {p:α→α→Bool}:∀ {a b:List α},eqL p a b=true→a.length=b.length
 | [],[],_=>rfl
 | a::r,b::s,h=>by rw [eqL,Bool.and_eq_true] at h;rw [List.length_cons,List.length_cons,eqL_len h.2]
 | [],b::s,h=>by cases h
 | a::r,[],h=>by cases h
theorem eqL_ne {α:Type} {p:α→α→Bool} {a b:List α} (h:a.length≠b.length):eqL p a b=false:=by
 cases hc:eqL p a b with
 | false=>rfl
 | true=>exact absurd (eqL_len hc) h
theorem eqL_at {α:Type} {p:α→α→Bool}:∀ {a b:List α} {k:Nat} {x y:α},a[k]?=some x→b[k]?=some y→eqL p a b=true→p x y=true
 | a::r,b::s,0,x,y,h1,h2,h=>by cases h1;cases h2;rw [eqL,Bool.and_eq_true] at h;exact h.1
 | a::r,b::s,k+1,x,y,h1,h2,h=>by rw [eqL,Bool.and_eq_true] at h;exact eqL_at (by simpa using h1) (by simpa using h2) h.2
 | [],_,k,x,y,h1,h2,h=>by simp at h1
 | a::r,[],k,x,y,h1,h2,h=>by simp at h2
theorem eqL_no {α:Type} {p:α→α→Bool} {a b:List α} {k:Nat} {x y:α} (h1:a[k]?=some x) (h2:b[k]?=some y) (h:p x y=false):eqL p a b=false:=by
 cases hc:eqL p a b with
 | false=>rfl
 | true=>have:=eqL_at h1 h2 hc;rw [h] at this;cases this
theorem eqL_all {α:Type} {p:α→α→Bool}:∀ {a b:List α},a.length=b.length→(∀ (k:Nat) x y,a[k]?=some x→b[k]?=some y→p x y=true)→eqL p a b=true
 | [],[],_,_=>rfl
 | a::r,b::s,hl,h=>by
  rw [eqL,h 0 a b rfl rfl,eqL_all (by simpa using hl) fun k x y h1 h2=>h (k+1) x y (by simpa using h1) (by simpa using h2)];rfl
 | [],b::s,hl,h=>by simp at hl
 | a::r,[],hl,h=>by simp at hl
def eqTo {α:Type} (p:α→α→Bool) (a b:List α) (k:Nat):Prop:=∀ j x y,j < k→a[j]?=some x→b[j]?=some y→p x y=true
theorem eqTo_succ {α:Type} {p:α→α→Bool} {a b:List α} {k:Nat} {x y:α} (h1:a[k]?=some x) (h2:b[k]?=some y) (h:eqTo p a b k) (hp:p x y=true):eqTo p a b (k+1):=fun j u v hj h3 h4=>by
 by_cases he:j=k
 ·subst he;rw [h1] at h3;rw [h2] at h4;cases h3;cases h4;exact hp
 ·exact h j u v (by omega) h3 h4
theorem eqTo_end {α:Type} {p:α→α→Bool} {a b:List α} (hl:a.length=b.length) (h:eqTo p a b a.length):eqL p a b=true :=
 eqL_all hl fun k x y h1 h2=>h k x y (List.getElem?_eq_some_iff.1 h1).1 h1 h2
def sameF (a b:Go.Sp.Fn):Bool:=((a.name==b.name)&&eqL (fun x y=>x==y) a.params b.params)&&(a.body==b.body)
def sameN (a b:Go.Xp.Nd):Bool:=(((a.kind==b.kind)&&(a.n==b.n))&&(a.s==b.s))&&eqL (fun x y=>x==y) a.kids b.kids
def eqA (x y:Go.Xp.Ar):Bool:=(x.name==y.name)&&(x.size==y.size)
end Go.Im
namespace Go.Im
open Go.Xp Go.Sp
theorem ers_len (l:List T):(ers l).length=l.length:=by rw [ers_map,List.length_map]
theorem er_n (t:T):(er t).n=⟨t.n.kind,0,t.n.n,t.n.s,[]⟩:=by cases t;rw [er];rfl
theorem er_kids (t:T):(er t).kids=ers t.kids:=by cases t;rw [er];rfl
mutual
theorem szT_er:∀ t:T,szT (er t)=szT t
 | .mk n l=>by rw [er,szT,szT,szL_ers l]
theorem szL_ers:∀ l:List T,szL (ers l)=szL l
 | []=>by rw [ers]
 | t::r=>by rw [ers,szL,szL,szT_er t,szL_ers r]
end
theorem kinds_ers (m:Nat):∀ (l:List T) (i:Nat),kindsFrom m i (ers l)=kindsFrom m i l
 | [],i=>by rw [ers]
 | t::r,i=>by rw [ers,kindsFrom,kindsFrom,kinds_ers m r (i+1),er_n]
theorem stmts_ers:∀ (l:List T),(ers l).all (fun x=>isStmt x.n.kind)=l.all (fun x=>isStmt x.n.kind)
 | []=>by rw [ers]
 | t::r=>by rw [ers,List.all_cons,List.all_cons,stmts_ers r,er_n]
theorem own_at (n:Nd) (k:Nat) (kd:Nat→Bool) (bl:Bool) (h:0≤n.at_) (h':own ⟨n.kind,0,n.n,n.s,[]⟩ k kd bl=true):own n k kd bl=true:=by
 unfold own at h' ⊢
 rw [if_neg (by simp)] at h'
 rw [if_neg (by simpa using h)]
 exact h'
mutual
theorem all_er:∀ t:T,allT (er t)=true→atT t→allT t=true
 | .mk n l,h,ha=>by
  rw [er,allT,Bool.and_eq_true] at h
  rw [atT] at ha
  rw [allT,Bool.and_eq_true]
  refine ⟨alls_er l h.1 ha.2,?_⟩
  have h2:own ⟨n.kind,0,n.n,n.s,[]⟩ (ers l).length (fun m=>kindsFrom m 0 (ers l)) ((ers l).all fun x=>isStmt x.n.kind)=true:=h.2
  rw [ers_len,stmts_ers] at h2
  simp only [kinds_ers] at h2
  exact own_at n _ _ _ ha.1 h2
theorem alls_er:∀ l:List T,allTs (ers l)=true→atTs l→allTs l=true
 | [],_,_=>rfl
 | t::r,h,ha=>by
  rw [ers,allTs,Bool.and_eq_true] at h
  rw [atTs] at ha
  rw [allTs,Bool.and_eq_true]
  exact ⟨all_er t h.1 ha.1,alls_er r h.2 ha.2⟩
end
mutual
theorem all_at:∀ t:T,allT t=true→atT t
 | .mk n l,h=>by
  rw [allT,Bool.and_eq_true] at h
  rw [atT]
  refine ⟨?_,alls_at l h.1⟩
  have h2:own n l.length (fun m=>kindsFrom m 0 l) (l.all fun x=>isStmt x.n.kind)=true:=h.2
  by_cases h0:n.at_ < 0
  ·unfold own at h2
   rw [if_pos (by simpa using h0)] at h2
   cases h2
  ·omega
theorem alls_at:∀ l:List T,allTs l=true→atTs l
 | [],_=>trivial
 | t::r,h=>by
  rw [allTs,Bool.and_eq_true] at h
  rw [atTs]
  exact ⟨all_at t h.1,alls_at r h.2⟩
end
theorem e_expr (a:E):isExpr a.tree.n.kind=true:=by cases a <;> rfl
mutual
theorem E.tree_all:∀ a:E,a.ok=true→allT a.tree=true
 | .num n,h=>by
  simp only [E.ok,Bool.and_eq_true] at h
  rw [E.tree,allT,allTs]
  simp [ownT,own,T.n,T.kids]
  exact h
 | .name s,h=>by
  simp only [E.ok] at h
  rw [E.tree,allT,allTs]
  simp [ownT,own,T.n,T.kids,h]
 | .at_ s a,h=>by
  simp only [E.ok,Bool.and_eq_true] at h
  have h2:=E.tree_all a h.2
  have h3:=e_expr a
  rw [E.tree,allT,allTs,allTs,h2]
  simp [ownT,own,T.n,T.kids,h.1,kindsFrom]
  exact h3
 | .call s l,h=>by
  simp only [E.ok,Bool.and_eq_true] at h
  obtain ⟨h2,h3⟩:=E.trees_all l h.2
  rw [E.tree,allT,h2]
  have:=h3 (E.trees l).length 0 (by omega)
  simp [ownT,own,T.n,T.kids,h.1,this]
 | .un s a,h=>by
  simp only [E.ok,Bool.and_eq_true] at h
  have h2:=E.tree_all a h.2
  have h3:=e_expr a
  rw [E.tree,allT,allTs,allTs,h2]
  simp [ownT,own,T.n,T.kids,kindsFrom]
  exact ⟨by simpa using h.1,h3⟩
 | .bin s a b,h=>by
  simp only [E.ok,Bool.and_eq_true] at h
  have h2:=E.tree_all a h.1.2
  have h3:=e_expr a
  have h4:=E.tree_all b h.2
  have h5:=e_expr b
  rw [E.tree,allT,allTs,allTs,allTs,h2,h4]
  simp [ownT,own,T.n,T.kids,kindsFrom,h.1.1]
  exact ⟨h3,h5⟩
theorem E.trees_all:∀ l:List E,E.oks l=true→allTs (E.trees l)=true∧∀ m i,i+(E.trees l).length≤m→kindsFrom m i (E.trees l)=true
 | [],_=>⟨rfl,fun m i _=>rfl⟩
 | a::l,h=>by
  simp only [E.oks,Bool.and_eq_true] at h
  obtain ⟨h2,h3⟩:=E.trees_all l h.2
  refine ⟨by rw [E.trees,allTs,E.tree_all a h.1,h2];rfl,fun m i hm=>?_⟩
  rw [E.trees,List.length_cons] at hm
  rw [E.trees,kindsFrom,if_pos (by omega),e_expr a,h3 m (i+1) (by omega)];rfl
end
theorem s_stmt (a:S):isStmt a.tree.n.kind=true:=by cases a <;> rfl
mutual
theorem S.tree_all:∀ a:S,a.ok=true→allT a.tree=true
 | .set s a,h=>by
  simp only [S.ok,Bool.and_eq_true] at h
  have h2:=E.tree_all a h.2
  have h3:=e_expr a
  rw [S.tree,allT,allTs,allTs,h2]
  simp [ownT,own,T.n,T.kids,h.1,kindsFrom]
  exact h3
 | .var s a,h=>by
  simp only [S.ok,Bool.and_eq_true] at h
  have h2:=E.tree_all a h.2
  have h3:=e_expr a
  rw [S.tree,allT,allTs,allTs,h2]
  simp [ownT,own,T.n,T.kids,h.1,kindsFrom]
  exact h3
 | .ret a,h=>by
  simp only [S.ok] at h
  have h2:=E.tree_all a h
  have h3:=e_expr a
  rw [S.tree,allT,allTs,allTs,h2]
  simp [ownT,own,T.n,T.kids,kindsFrom]
  exact h3
 | .do_ a,h=>by
  simp only [S.ok] at h
  have h2:=E.tree_all a h
  have h3:=e_expr a
  rw [S.tree,allT,allTs,allTs,h2]
  simp [ownT,own,T.n,T.kids,kindsFrom]
  exact h3
 | .put s a b,h=>by
  simp only [S.ok,Bool.and_eq_true] at h
  have h2:=E.tree_all a h.2.1
  have h3:=e_expr a
  have h4:=E.tree_all b h.2.2
  have h5:=e_expr b
  rw [S.tree,allT,allTs,allTs,allTs,h2,h4]
  simp [ownT,own,T.n,T.kids,kindsFrom,h.1]
  exact ⟨h3,h5⟩
 | .if1 c b,h=>by
  simp only [S.ok,Bool.and_eq_true] at h
  have h2:=E.tree_all c h.1
  have h3:=e_expr c
  have h4:=S.blk_all b h.2
  rw [S.tree,allT,allTs,allTs,allTs,h2,h4]
  simp [ownT,own,T.n,T.kids,kindsFrom]
  exact h3
 | .if2 c b b2,h=>by
  simp only [S.ok,Bool.and_eq_true] at h
  have h2:=E.tree_all c h.1
  have h3:=e_expr c
  have h4:=S.blk_all b h.2.1
  have h5:=S.blk_all b2 h.2.2
  rw [S.tree,allT,allTs,allTs,allTs,allTs,h2,h4,h5]
  simp [ownT,own,T.n,T.kids,kindsFrom]
  exact h3
 | .while_ c b,h=>by
  simp only [S.ok,Bool.and_eq_true] at h
  have h2:=E.tree_all c h.1
  have h3:=e_expr c
  have h4:=S.blk_all b h.2
  rw [S.tree,allT,allTs,allTs,allTs,h2,h4]
  simp [ownT,own,T.n,T.kids,kindsFrom]
  exact h3
theorem S.blk_all:∀ l:List S,S.oks l=true→allT (.mk ⟨14,0,0,[],[]⟩ (S.trees l))=true
 | l,h=>by
  obtain ⟨h1,h2⟩:=S.trees_all l h
  have h3:ownT (.mk ⟨14,0,0,[],[]⟩ (S.trees l))=own ⟨14,0,0,[],[]⟩ (S.trees l).length (fun m=>kindsFrom m 0 (S.trees l)) ((S.trees l).all fun x=>isStmt x.n.kind):=rfl
  rw [allT,h1,h3,h2]
  simp [own]
theorem S.trees_all:∀ l:List S,S.oks l=true→allTs (S.trees l)=true∧(S.trees l).all (fun x=>isStmt x.n.kind)=true
 | [],_=>⟨rfl,rfl⟩
 | a::l,h=>by
  simp only [S.oks,Bool.and_eq_true] at h
  obtain ⟨h1,h2⟩:=S.trees_all l h.2
  exact ⟨by rw [S.trees,allTs,S.tree_all a h.1,h1];rfl,by rw [S.trees,List.all_cons,h2,s_stmt a];rfl⟩
end
theorem own_k {n:Nd} {k:Nat} {kd:Nat→Bool} {bl:Bool} (h:own n k kd bl=true):kOkN n.kind k=true:=by
 have hc:n.kind=1∨n.kind=2∨n.kind=3∨n.kind=4∨n.kind=5∨n.kind=6∨n.kind=7∨n.kind=8∨n.kind=9∨n.kind=10∨n.kind=11∨n.kind=12∨n.kind=13∨n.kind=14∨(n.kind < 1∨14 < n.kind):=by omega
 unfold own at h
 by_cases h0:decide (n.at_ < 0)=true
 ·rw [if_pos h0] at h;cases h
 rw [if_neg h0] at h
 by_cases h1:(n.kind != 1&&n.n != 0)=true
 ·rw [if_pos h1] at h;cases h
 rw [if_neg h1] at h
 clear h0 h1
 rcases hc with hk | hk | hk | hk | hk | hk | hk | hk | hk | hk | hk | hk | hk | hk | hk
 all_goals (first | (simp [hk] at h;simp [kOkN,hk];done) | (simp [hk] at h;simp [kOkN,hk];omega) | (simp [hk] at h;simp [kOkN,hk,h];done) | skip)
 ·exfalso
  have e1:(n.kind==1)=false:=by simp;omega
  have e2:(n.kind==2)=false:=by simp;omega
  have e3:(n.kind==3)=false:=by simp;omega
  have e4:(n.kind==4)=false:=by simp;omega
  have e5:(n.kind==5)=false:=by simp;omega
  have e6:(n.kind==6)=false:=by simp;omega
  have e7:(n.kind==7)=false:=by simp;omega
  have e8:(n.kind==8)=false:=by simp;omega
  have e9:(n.kind==9)=false:=by simp;omega
  have e10:(n.kind==10)=false:=by simp;omega
  have e11:(n.kind==11)=false:=by simp;omega
  have e12:(n.kind==12)=false:=by simp;omega
  have e13:(n.kind==13)=false:=by simp;omega
  have e14:(n.kind==14)=false:=by simp;omega
  rw [e1,e2,e3,e4,e5,e6,e7,e8,e9,e10,e11,e12,e13,e14] at h
  simp at h
mutual
theorem all_k:∀ t:T,allT t=true→kOk t=true
 | .mk n l,h=>by
  rw [allT,Bool.and_eq_true] at h
  rw [kOk,alls_k l h.1,Bool.and_true]
  exact own_k h.2
theorem alls_k:∀ l:List T,allTs l=true→kOks l=true
 | [],_=>rfl
 | t::r,h=>by
  rw [allTs,Bool.and_eq_true] at h
  rw [kOks,all_k t h.1,alls_k r h.2];rfl
end
theorem lessI_er (t:T) (z:Int):lessI (er t) z=lessI t z:=by unfold lessI;rw [er_n]
theorem tiN_ers (n:Nd) (l:List T) (x:List Str):tiN ⟨n.kind,0,n.n,n.s,[]⟩ (ers l) x=tiN n l x:=by
 unfold tiN
 match l with
 | []=>rw [ers]
 | [a]=>rw [ers,ers];simp only [er_n]
 | a::b::r=>rw [ers,ers];simp only [er_n,lessI_er]
mutual
theorem tiT_er:∀ t:T,tiT (er t)=tiT t
 | .mk n l=>by rw [er,tiT,tiT,tiL_ers l,tiN_ers]
theorem tiL_ers:∀ l:List T,tiL (ers l)=tiL l
 | []=>by rw [ers]
 | t::r=>by rw [ers,tiL,tiL,tiT_er t,tiL_ers r]
end
mutual
theorem stT_er (inl:List Str→Nat→Str):∀ (t:T) (d:Nat),stT tiT inl d (er t)=stT tiT inl d t
 | .mk n l,d=>by
  have h:=tiT_er (.mk n l)
  rw [er] at h ⊢
  rw [stT,stT,h,blL_ers inl l d,ers_len]
  have:(ers l).map tiT=l.map tiT:=by rw [←tiL_map,←tiL_map,tiL_ers]
  rw [this]
  rfl
theorem blL_ers (inl:List Str→Nat→Str):∀ (l:List T) (d:Nat),blL tiT inl d (ers l)=blL tiT inl d l
 | [],d=>by rw [ers]
 | t::r,d=>by rw [ers,blL,blL,blT_er inl t d,blL_ers inl r d]
theorem blT_er (inl:List Str→Nat→Str):∀ (t:T) (d:Nat),blT tiT inl d (er t)=blT tiT inl d t
 | .mk n l,d=>by rw [er,blT,blT,stL_ers inl l (d+1)]
theorem stL_ers (inl:List Str→Nat→Str):∀ (l:List T) (d:Nat),stL tiT inl d (ers l)=stL tiT inl d l
 | [],d=>by rw [ers]
 | t::r,d=>by rw [ers,stL,stL,stT_er inl t d,stL_ers inl r d]
end
theorem lvI_lv {s:Str} (h:anySign s=true):lvI s=(lvOf s:Int):=by
 unfold lvI lvOf
 cases hf:levels.findIdx? (fun l=>l.contains s) with
 | some i=>rfl
 | none =>
  rw [List.findIdx?_eq_none_iff] at hf
  unfold anySign at h
  rw [List.any_eq_true] at h
  obtain ⟨l,h1,h2⟩:=h
  have:=hf l h1
  rw [h2] at this;cases this
theorem less_lv {a:E} (h:a.ok=true) (k:Nat) (hk:k≤9):lessI a.tree (k:Int)=decide (a.lv < k):=by
 have key:∀ b:Bool,(false&&b)=decide (9 < k):=fun b=>by rw [Bool.false_and,decide_eq_false (by omega)]
 cases a with
 | bin s x y =>
  simp only [E.ok,Bool.and_eq_true] at h
  show (true&&decide (lvI s < (k:Int)))=decide (lvOf s < k)
  rw [lvI_lv h.1.1,Bool.true_and]
  exact decide_eq_decide.2 (by omega)
 | num n=>exact key _
 | name n=>exact key _
 | at_ s a=>exact key _
 | call s l=>exact key _
 | un s a=>exact key _
theorem brI_brt (lv k:Nat) (x:Str):brI (decide (lv < k)) x=brt lv k x:=by
 unfold brI brt
 by_cases h:lv < k
 ·rw [if_pos (by simpa using h),if_pos h]
 ·rw [if_neg (by simpa using h),if_neg h]
theorem bin_lv {a:E} (h:a.ok=true):(a.tree.n.kind==6)=decide (a.lv < 9):=by
 cases a with
 | bin s x y =>
  simp only [E.ok,Bool.and_eq_true] at h
  have:=(lvOf_spec h.1.1).1
  show true=decide (lvOf s < 9)
  exact (decide_eq_true this).symm
 | _=>rfl
mutual
theorem tiT_txt:∀ a:E,a.ok=true→tiT a.tree=a.txt
 | .num n,h=>by
  simp only [E.ok,Bool.and_eq_true,decide_eq_true_eq] at h
  rw [E.tree,tiT,E.txt]
  unfold tiN itoaI
  simp only [if_true]
  rw [if_neg (by omega)]
 | .name s,h=>by
  rw [E.tree,tiT,E.txt]
  simp [tiN]
 | .at_ s a,h=>by
  simp only [E.ok,Bool.and_eq_true] at h
  have h2:=tiT_txt a h.2
  rw [E.tree,tiT,tiL,tiL,h2,E.txt]
  simp [tiN]
 | .call s l,h=>by
  simp only [E.ok,Bool.and_eq_true] at h
  rw [E.tree,tiT,tiL_txt l h.2,E.txt]
  simp [tiN]
 | .un s a,h=>by
  simp only [E.ok,Bool.and_eq_true] at h
  have h2:=tiT_txt a h.2
  rw [E.tree,tiT,tiL,tiL,h2,E.txt,←brI_brt,←bin_lv h.2]
  simp [tiN]
 | .bin s a b,h=>by
  simp only [E.ok,Bool.and_eq_true] at h
  have h2:=tiT_txt a h.1.2
  have h3:=tiT_txt b h.2
  have hl:=(lvOf_spec h.1.1).1
  have e1:=less_lv h.1.2 (lvOf s) (by omega)
  have e2:=less_lv h.2 (lvOf s+1) (by omega)
  rw [E.tree,tiT,tiL,tiL,tiL,h2,h3,E.txt,←brI_brt,←brI_brt,←e1,←e2]
  unfold tiN
  simp only [lvI_lv h.1.1]
  simp
theorem tiL_txt:∀ l:List E,E.oks l=true→tiL (E.trees l)=E.txts l
 | [],_=>rfl
 | a::l,h=>by
  simp only [E.oks,Bool.and_eq_true] at h
  rw [E.trees,tiL,E.txts,tiT_txt a h.1,tiL_txt l h.2]
end
theorem catB_txts (x:E→Str):∀ (l:List S) (acc:Str),catB acc (l.map (S.txt x))=S.txts x acc l
 | [],acc=>by rw [S.txts];rfl
 | a::l,acc=>by
  rw [S.txts,←catB_txts x l]
  simp [catB,List.append_assoc]
mutual
theorem stT_txt:∀ (s:S),s.ok=true→∀ d,stT tiT inl1 d s.tree=s.txt E.txt
 | .set s a,h,d=>by
  simp only [S.ok,Bool.and_eq_true] at h
  rw [S.tree,stT,List.map_cons,tiT_txt a h.2,S.txt]
  simp [stN]
 | .var s a,h,d=>by
  simp only [S.ok,Bool.and_eq_true] at h
  rw [S.tree,stT,List.map_cons,tiT_txt a h.2,S.txt]
  simp [stN]
 | .ret a,h,d=>by
  simp only [S.ok] at h
  rw [S.tree,stT,List.map_cons,tiT_txt a h,S.txt]
  simp [stN]
 | .do_ a,h,d=>by
  simp only [S.ok] at h
  rw [S.tree,stT,List.map_cons,tiT_txt a h,S.txt]
  simp [stN]
 | .put s a b,h,d=>by
  simp only [S.ok,Bool.and_eq_true] at h
  rw [S.tree,stT,List.map_cons,List.map_cons,tiT_txt a h.2.1,tiT_txt b h.2.2,S.txt]
  simp [stN]
 | .if1 c b,h,d=>by
  simp only [S.ok,Bool.and_eq_true] at h
  have hb:=blT_txt b h.2 d
  rw [S.tree,stT,List.map_cons,tiT_txt c h.1,blL,blL,blL,hb,S.txt]
  simp [stN,blkTxt]
 | .if2 c b b2,h,d=>by
  simp only [S.ok,Bool.and_eq_true] at h
  have hb:=blT_txt b h.2.1 d
  have hb2:=blT_txt b2 h.2.2 d
  rw [S.tree,stT,List.map_cons,tiT_txt c h.1,blL,blL,blL,blL,hb,hb2,S.txt]
  simp [stN,blkTxt]
 | .while_ c b,h,d=>by
  simp only [S.ok,Bool.and_eq_true] at h
  have hb:=blT_txt b h.2 d
  rw [S.tree,stT,List.map_cons,tiT_txt c h.1,blL,blL,blL,hb,S.txt]
  simp [stN,blkTxt]
theorem blT_txt:∀ (l:List S),S.oks l=true→∀ d,blT tiT inl1 d (.mk ⟨14,0,0,[],[]⟩ (S.trees l))=blkTxt E.txt l
 | l,h,d=>by
  rw [blT,stL_txt l h (d+1),inl1,catB_txts];rfl
theorem stL_txt:∀ (l:List S),S.oks l=true→∀ d,stL tiT inl1 d (S.trees l)=l.map (S.txt E.txt)
 | [],_,d=>by rw [S.trees,stL];rfl
 | a::l,h,d=>by
  simp only [S.oks,Bool.and_eq_true] at h
  rw [S.trees,stL,List.map_cons,stT_txt a h.1,stL_txt l h.2]
end
theorem eqL_refl {α:Type} {p:α→α→Bool} (h:∀ x,p x x=true):∀ l:List α,eqL p l l=true
 | []=>rfl
 | a::l=>by rw [eqL,h a,eqL_refl h l];rfl
theorem eqL_beq {α:Type} [BEq α] [LawfulBEq α]:∀ {a b:List α},eqL (fun x y=>x==y) a b=true→a=b
 | [],[],_=>rfl
 | a::r,b::s,h=>by rw [eqL,Bool.and_eq_true,beq_iff_eq] at h;rw [h.1,eqL_beq h.2]
 | [],b::s,h=>by cases h
 | a::r,[],h=>by cases h
theorem eqL_app {α:Type} {p:α→α→Bool}:∀ {a b:List α} {c d:List α},a.length=b.length→eqL p (a++c) (b++d)=(eqL p a b&&eqL p c d)
 | [],[],c,d,_=>rfl
 | a::r,b::s,c,d,h=>by rw [List.cons_append,List.cons_append,eqL,eqL,eqL_app (by simpa using h),Bool.and_assoc]
 | [],b::s,_,_,h=>by simp at h
 | a::r,[],_,_,h=>by simp at h
theorem kidsAt_ers:∀ (l:List T) (a:Nat),kidsAt a (ers l)=kidsAt a l
 | [],a=>by rw [ers]
 | t::r,a=>by rw [ers,kidsAt,kidsAt,szT_er,kidsAt_ers r]
mutual
theorem flT_sim:∀ (t u:T) (a:Nat),er t=er u→eqL sameN (flT a t) (flT a u)=true
 | .mk n l,.mk m k,a,h=>by
  rw [er,er] at h
  injection h with h1 h2
  injection h1 with h3 h4 h5 h6 h7
  rw [flT,flT,eqL,flL_sim l k (a+1) h2,Bool.and_true,←kidsAt_ers l,←kidsAt_ers k,h2]
  simp only [sameN,h3,h5,h6]
  simp [eqL_refl]
theorem flL_sim:∀ (l k:List T) (a:Nat),ers l=ers k→eqL sameN (flL a l) (flL a k)=true
 | [],[],a,_=>by rw [flL];rfl
 | t::r,u::s,a,h=>by
  rw [ers,ers] at h
  injection h with h1 h2
  have hz:szT t=szT u:=by rw [←szT_er t,h1,szT_er u]
  rw [flL,flL,eqL_app (by rw [flT_len,flT_len,hz]),flT_sim t u a h1,←hz,flL_sim r s _ h2];rfl
 | [],u::s,a,h=>by rw [ers,ers] at h;cases h
 | t::r,[],a,h=>by rw [ers,ers] at h;cases h
end
mutual
theorem sim_flT:∀ (t u:T) (a:Nat) (x y:List Nd),eqL sameN (flT a t++x) (flT a u++y)=true→er t=er u∧eqL sameN x y=true
 | .mk n l,.mk m k,a,x,y,h=>by
  rw [flT,flT,List.cons_append,List.cons_append,eqL,Bool.and_eq_true] at h
  obtain ⟨h1,h2⟩:=h
  simp only [sameN,Bool.and_eq_true,beq_iff_eq] at h1
  obtain ⟨⟨⟨h3,h4⟩,h5⟩,h6⟩:=h1
  have h7:=congrArg List.length (eqL_beq h6)
  rw [kidsAt_len,kidsAt_len] at h7
  obtain ⟨h8,h9⟩:=sim_flL l k (a+1) x y h7 h2
  exact ⟨by rw [er,er,h3,h4,h5,h8],h9⟩
theorem sim_flL:∀ (l k:List T) (a:Nat) (x y:List Nd),l.length=k.length→eqL sameN (flL a l++x) (flL a k++y)=true→ers l=ers k∧eqL sameN x y=true
 | [],[],a,x,y,_,h=>by rw [flL,List.nil_append,List.nil_append] at h;exact ⟨rfl,h⟩
 | t::r,u::s,a,x,y,hl,h=>by
  rw [flL,flL,List.append_assoc,List.append_assoc] at h
  obtain ⟨h1,h2⟩:=sim_flT t u a _ _ h
  have hz:szT t=szT u:=by rw [←szT_er t,h1,szT_er u]
  rw [←hz] at h2
  obtain ⟨h3,h4⟩:=sim_flL r s _ x y (by simpa using hl) h2
  exact ⟨by rw [ers,ers,h1,h3],h4⟩
 | [],u::s,a,x,y,hl,h=>by simp at hl
 | t::r,[],a,x,y,hl,h=>by simp at hl
end
theorem sim_all {l k:List T} (hl:l.length=k.length) (h:eqL sameN (flL 0 l) (flL 0 k)=true):ers l=ers k:=by
 have:=sim_flL l k 0 [] [] hl (by rw [List.append_nil,List.append_nil];exact h)
 exact this.1
end Go.Im
namespace Go.Im
open Go.Xp Go.Sp
structure PS where
 trees:List T
 globals:List Str
 arrays:List Ar
 fns:List (Str × List Str)
def PS.empty:PS:=⟨[],[],[],[]⟩
def iPm:Nat→List Str→RS→Option (List Str × RS)
 | 0,_,_=>none
 | f+1,acc,p =>
  if p.code=0∧is p 0 [41]=false then iPm f (acc++[(tok (if acc.length=0 then p else want p [44]) 0).s]) (nameS (if acc.length=0 then p else want p [44]))
  else some (acc,want p [41])
def iW (f:Nat) (p:RS) (st:PS):Option (RS × PS) :=
 if is p 0 kwInt=true then
  if (nameS p.next).code=0∧is (nameS p.next) 0 [91]=true then
   if (tok (nameS p.next).next 0).kind=1 then
    some (want (want (nameS p.next).next.next [93]) [59],{ st with arrays:=st.arrays++[⟨(tok p.next 0).s,(tok (nameS p.next).next 0).n⟩] })
   else some (wrong (nameS p.next).next,st)
  else some (want (nameS p.next) [59],{ st with globals:=st.globals++[(tok p.next 0).s] })
 else if is p 0 kwFunc=true then
  match iPm f [] (want (nameS p.next) [40]) with
  | none=>none
  | some (l,q) =>
   if q.code=0 then match iS f (.block 1) q with
    | none=>none
    | some (t,q)=>some (q,{ st with trees:=st.trees++[t],fns:=st.fns++[((tok p.next 0).s,l)] })
   else some (q,st)
 else some (wrong p,st)
def iPs:Nat→Nat→RS→PS→Option (RS × PS)
 | 0,_,_,_=>none
 | g+1,f,p,st =>
  if p.code=0∧p.i < p.l.length then match iW f p st with
   | none=>none
   | some (p,st)=>iPs g f p st
  else some (p,st)
theorem iPm_to:∀ (f:Nat) (acc:List Str) (p:RS) (l:List Str) (q:RS),p.ok→iPm f acc p=some (l,q)→p.to q
 | 0,_,_,_,_,_,h=>by cases h
 | f+1,acc,p,l,q,hp,h=>by
  rw [iPm] at h
  split at h
  ·have h1:p.to (if acc.length=0 then p else want p [44]):=by split;exact to_self hp;exact to_want hp _
   have h2:=to_nameS (h1.ok hp)
   have h3:=iPm_to f _ _ l q ((h1.trans h2).ok hp) h
   exact (h1.trans h2).trans h3
  ·cases h;exact to_want hp _
theorem iW_to {f:Nat} {p q:RS} {st st':PS} (hp:p.ok) (h:iW f p st=some (q,st')):p.to q:=by
 unfold iW at h
 split at h
 ·rename_i hi
  have h1:=to_is hi
  have h2:=h1.trans (to_nameS (h1.ok hp))
  split at h
  ·rename_i hb
   have h3:=h2.trans (to_is hb.2)
   split at h
   ·rename_i hk
    have hk':(tok (nameS p.next).next 0).kind≠0:=by rw [hk];decide
    have h4:=h3.trans (to_next (by have:=tok_lt hk';exact this))
    have h5:=h4.trans (to_want (h4.ok hp) [93])
    cases h;exact h5.trans (to_want (h5.ok hp) _)
   ·cases h;exact h3.trans (to_wrong (h3.ok hp))
  ·cases h;exact h2.trans (to_want (h2.ok hp) _)
 ·split at h
  ·rename_i hi
   have h1:=to_is hi
   have h2:=h1.trans (to_nameS (h1.ok hp))
   have h3:=h2.trans (to_want (h2.ok hp) [40])
   cases hm:iPm f [] (want (nameS p.next) [40]) with
   | none=>rw [hm] at h;cases h
   | some r =>
    obtain ⟨l,q1⟩:=r
    rw [hm] at h
    simp only at h
    have h4:=h3.trans (iPm_to _ _ _ _ _ (h3.ok hp) hm)
    split at h
    ·cases hb:iS f (.block 1) q1 with
     | none=>rw [hb] at h;cases h
     | some r =>
      obtain ⟨t,q2⟩:=r
      rw [hb] at h
      cases h
      exact h4.trans ((iS_to f).1 _ _ _ _ (h4.ok hp) hb)
    ·cases h;exact h4
  ·cases h;exact to_wrong hp
structure PS.le (a:PS) (n:Nat):Prop where
 trees:a.trees.length≤n
 globals:a.globals.length≤n
 arrays:a.arrays.length≤n
 fns:a.fns.length=a.trees.length
theorem iW_le {f n:Nat} {p q:RS} {st st':PS} (h:iW f p st=some (q,st')) (hs:st.le n):st'.le (n+1):=by
 obtain ⟨a,b,c,d⟩:=hs
 have key:st.le (n+1):=⟨by omega,by omega,by omega,d⟩
 unfold iW at h
 split at h
 ·split at h
  ·split at h
   ·cases h;exact ⟨by simp;omega,by simp;omega,by simp;omega,by simp;omega⟩
   ·cases h;exact key
  ·cases h;exact ⟨by simp;omega,by simp;omega,by simp;omega,by simp;omega⟩
 ·split at h
  ·split at h
   ·cases h
   ·split at h
    ·split at h
     ·cases h
     ·cases h;exact ⟨by simp;omega,by simp;omega,by simp;omega,by simp;omega⟩
    ·cases h;exact key
  ·cases h;exact key
end Go.Im
namespace Go.Sp
open Go.Xp
inductive Tz (s:Str):Nat→List Tok→Nat→Prop
 | nil (a:Nat):Tz s a [] a
 | blank {a b:Nat} {c:UInt8} {ts:List Tok} (hc:s[a]?=some c) (hb:isBlank c=true) (h:Tz s (a+1) ts b):Tz s a ts b
 | tok {a a' b:Nat} {c:UInt8} {t:Tok} {ts:List Tok} (hc:s[a]?=some c) (hb:isBlank c=false) (hr:begins s a [47,42]=false) (ht:tokAt s a c=(t,a')) (hk:t.kind=1∨t.kind=2∨t.kind=3) (hn:t.n≤2147483647) (ha:a < a') (h:Tz s a' ts b):Tz s a (t::ts) b
theorem Tz.app {s:Str} {a b c:Nat} {ts us:List Tok} (h:Tz s a ts b) (k:Tz s b us c):Tz s a (ts++us) c:=by
 induction h with
 | nil a=>exact k
 | blank hc hb h ih=>exact .blank hc hb (ih k)
 | tok hc hb hr ht hk hn ha h ih=>exact .tok hc hb hr ht hk hn ha (ih k)
theorem Tz.kinds {s:Str} {a b:Nat} {ts:List Tok} (h:Tz s a ts b):∀ t∈ts,t.kind=1∨t.kind=2∨t.kind=3:=by
 induction h with
 | nil a=>intro t h;cases h
 | blank hc hb h ih=>exact ih
 | tok hc hb hr ht hk hn ha h ih =>
  intro t h
  rcases List.mem_cons.1 h with rfl | h
  ·exact hk
  ·exact ih t h
theorem Tz.len {s:Str} {a b:Nat} {ts:List Tok} (h:Tz s a ts b):a+ts.length≤b:=by
 induction h with
 | nil a=>simp
 | blank hc hb h ih=>omega
 | tok hc hb hr ht hk hn ha h ih=>simp only [List.length_cons];omega
theorem skip_fuel (s:Str):∀ (f f' a:Nat),a≤s.length→s.length < f+a→s.length < f'+a→skip s f a=skip s f' a:=by
 intro f
 induction f with
 | zero=>intro f' a h1 h2;omega
 | succ f ih =>
  intro f' a h1 h2 h3
  obtain ⟨f',rfl⟩:∃ g,f'=g+1:=⟨f' - 1,by omega⟩
  rw [skip,skip]
  cases hc:s[a]? with
  | none=>rfl
  | some c =>
   simp only
   have hlt:=(List.getElem?_eq_some_iff.1 hc).1
   split
   ·exact ih f' (a+1) (by omega) (by omega) (by omega)
   ·split
    ·rename_i hb
     have hb:=begins_len hb
     have hb:a+2≤s.length:=hb
     have h4:=closeAt_le s s.length (a+2) hb
     have h5:=closeAt_end s s.length (a+2) hb (by omega)
     split
     ·rfl
     ·rename_i hn
      have h6:begins s (closeAt s s.length (a+2)) [42,47]=true:=by
       cases hbe:begins s (closeAt s s.length (a+2)) [42,47] with
       | true=>rfl
       | false=>exact absurd ⟨by omega,hbe⟩ h5
      have h6:=begins_len h6
      have h6:closeAt s s.length (a+2)+2≤s.length:=h6
      exact ih f' _ (by omega) (by omega) (by omega)
    ·rfl
theorem Tz.toks {s:Str} {a b:Nat} {ts:List Tok} (h:Tz s a ts b):∀ (f:Nat) (acc:List Tok),toksAt s (f+ts.length) (skip s (s.length+1) a).1 acc=toksAt s f (skip s (s.length+1) b).1 (acc++ts):=by
 induction h with
 | nil a=>intro f acc;simp
 | blank hc hb h ih =>
  rename_i a b c ts
  intro f acc
  have hlt:=(List.getElem?_eq_some_iff.1 hc).1
  rw [←ih f acc]
  have:skip s (s.length+1) a=skip s (s.length+1) (a+1):=by
   rw [skip,hc];simp only;rw [if_pos hb]
   exact skip_fuel s _ _ _ (by omega) (by omega) (by omega)
  rw [this]
 | tok hc hb hr ht hk hn ha h ih =>
  rename_i a a' b c t ts
  intro f acc
  have:skip s (s.length+1) a=(a,-1):=by
   rw [skip,hc];simp only
   rw [if_neg (by rw [hb];decide),if_neg (by rw [hr];decide)]
  rw [this,List.length_cons,←Nat.add_assoc,toksAt,hc]
  simp only [ht]
  rw [ih f (acc++[t]),List.append_assoc];rfl
theorem Tz.all {s:Str} {ts:List Tok} (h:Tz s 0 ts s.length):Go.Sp.toks s=some ts:=by
 have h1:=h.len
 have h2:=h.toks (s.length+2 - ts.length) []
 unfold Go.Sp.toks
 rw [show s.length+2 - ts.length+ts.length=s.length+2 by omega] at h2
 rw [h2]
 have h3:skip s (s.length+1) s.length=(s.length,-1):=by rw [skip];simp
 rw [h3]
 obtain ⟨g,hg⟩:∃ g,s.length+2 - ts.length=g+1:=⟨s.length+1 - ts.length,by omega⟩
 rw [hg,toksAt];simp
theorem at_drop {s r:Str} {a:Nat} {c:UInt8} (h:s.drop a=c::r):s[a]?=some c∧s.drop (a+1)=r∧a < s.length:=by
 have h1:s[a]?=some c:=by
  have:=List.getElem?_drop (xs:=s) (i:=a) (j:=0)
  rw [h] at this;simpa using this.symm
 refine ⟨h1,?_,(List.getElem?_eq_some_iff.1 h1).1⟩
 rw [←List.tail_drop,h];rfl
theorem run_app (s:Str) (p:UInt8→Bool):∀ (w post:Str) (f a:Nat),s.drop a=w++post→(∀ c∈w,p c=true)→run s p (f+w.length) a=run s p f (a+w.length):=by
 intro w
 induction w with
 | nil=>intro post f a h hp;rfl
 | cons c w ih =>
  intro post f a h hp
  obtain ⟨h1,h2,_⟩:=at_drop h
  rw [List.length_cons,←Nat.add_assoc,run,h1];simp only
  rw [if_pos (hp c (List.mem_cons_self)),ih post f (a+1) h2 (fun c hc=>hp c (List.mem_cons_of_mem _ hc))]
  congr 1;omega
theorem run_stop (s:Str) (p:UInt8→Bool) (post:Str) (f a:Nat) (h:s.drop a=post) (hp:∀ c,post.head?=some c→p c=false):run s p f a=a:=by
 cases f with
 | zero=>rfl
 | succ f =>
  rw [run]
  cases post with
  | nil =>
   have:s[a]?=none:=by
    rw [List.getElem?_eq_none_iff]
    have:=congrArg List.length h
    simp at this;omega
   rw [this]
  | cons c r =>
   obtain ⟨h1,_,_⟩:=at_drop h
   rw [h1];simp only
   rw [if_neg (by rw [hp c rfl];decide)]
theorem take_drop {s w post:Str} {a:Nat} (h:s.drop a=w++post):(s.take (a+w.length)).drop a=w:=by
 rw [List.drop_take,h,Nat.add_sub_cancel_left,List.take_left]
theorem len_drop {s w post:Str} {a:Nat} (h:s.drop a=w++post) (ha:a≤s.length):a+w.length+post.length=s.length:=by
 have:=congrArg List.length h
 simp only [List.length_drop,List.length_append] at this;omega
theorem word_tok {s w post:Str} {a:Nat} {c:UInt8} {r:Str} (ha:a≤s.length) (h:s.drop a=w++post) (hw:w=c::r) (hs:small c=true) (hall:∀ c∈w,namb c=true) (hp:∀ c,post.head?=some c→namb c=false) :
  tokAt s a c=(⟨if words.contains w=true then 3 else 2,0,w,a⟩,a+w.length):=by
 have hl:=len_drop h ha
 have he:wordEnd s a=a+w.length:=by
  unfold wordEnd
  obtain ⟨g,hg⟩:∃ g,s.length+1=g+w.length:=⟨s.length+1 - w.length,by omega⟩
  rw [hg,run_app s namb w post g a h hall]
  refine run_stop s namb post g _ ?_ hp
  rw [←List.drop_drop,h,List.drop_left]
 have hd:dig c=false:=by
  simp only [small,dig,Bool.and_eq_true] at hs ⊢
  have h1:=of_decide_eq_true hs.1
  have:¬ ((c.toNat:Int)≤57):=by omega
  simp [this]
 unfold tokAt
 rw [if_neg (by rw [hd];decide),if_pos hs]
 unfold wordAt
 rw [he,take_drop h]
def fold (n:Int) (w:Str):Int:=w.foldl (fun n c=>if n≤2147483647 then n * 10+((c.toNat:Int) - 48) else n) n
theorem number_app (s:Str):∀ (w post:Str) (f:Nat) (n:Int) (a:Nat),s.drop a=w++post→(∀ c∈w,dig c=true)→number s (f+w.length) n a=number s f (fold n w) (a+w.length):=by
 intro w
 induction w with
 | nil=>intro post f n a h hp;rfl
 | cons c w ih =>
  intro post f n a h hp
  obtain ⟨h1,h2,_⟩:=at_drop h
  rw [List.length_cons,←Nat.add_assoc,number,h1];simp only
  rw [if_pos (hp c (List.mem_cons_self)),ih post f _ (a+1) h2 (fun c hc=>hp c (List.mem_cons_of_mem _ hc))]
  rw [show a+1+w.length=a+(w.length+1) by omega];rfl
theorem number_stop (s:Str) (post:Str) (f:Nat) (n:Int) (a:Nat) (h:s.drop a=post) (hp:∀ c,post.head?=some c→dig c=false):number s f n a=(n,a):=by
 cases f with
 | zero=>rfl
 | succ f =>
  rw [number]
  cases post with
  | nil =>
   have:s[a]?=none:=by
    rw [List.getElem?_eq_none_iff]
    have:=congrArg List.length h
    simp at this;omega
   rw [this]
  | cons c r =>
   obtain ⟨h1,_,_⟩:=at_drop h
   rw [h1];simp only
   rw [if_neg (by rw [hp c rfl];decide)]
theorem dig_of (k:Nat) (h:k≤9):dig (UInt8.ofNat (48+k))=true∧((UInt8.ofNat (48+k)).toNat:Int)=48+k:=by
 have:(UInt8.ofNat (48+k)).toNat=48+k:=by simp;omega
 refine ⟨?_,by rw [this];omega⟩
 simp only [dig,Bool.and_eq_true,this]
 exact ⟨decide_eq_true (by omega),decide_eq_true (by omega)⟩
theorem digs_ok (n:Nat):(∀ c∈digs n,dig c=true)∧(n≤2147483647→fold 0 (digs n)=n)∧digs n≠[]:=by
 induction n using Nat.strongRecOn with
 | _ n ih =>
 unfold digs
 by_cases h:n < 10
 ·rw [dif_pos h]
  obtain ⟨h1,h2⟩:=dig_of n (by omega)
  refine ⟨fun c hc=>by rw [List.mem_singleton] at hc;subst hc;exact h1,fun _=>?_,by simp⟩
  simp only [fold,List.foldl_cons,List.foldl_nil]
  rw [if_pos (by omega),h2];omega
 ·rw [dif_neg h]
  obtain ⟨h1,h2,h3⟩:=ih (n / 10) (by omega)
  obtain ⟨h4,h5⟩:=dig_of (n % 10) (by omega)
  refine ⟨fun c hc=>?_,fun hn=>?_,by simp⟩
  ·rcases List.mem_append.1 hc with hc | hc
   ·exact h1 c hc
   ·rw [List.mem_singleton] at hc;subst hc;exact h4
  ·have:=h2 (by omega)
   unfold fold at this ⊢
   rw [List.foldl_append,this]
   simp only [List.foldl_cons,List.foldl_nil]
   rw [if_pos (by omega),h5];omega
theorem num_tok {s post:Str} {n a:Nat} {c:UInt8} {r:Str} (ha:a≤s.length) (h:s.drop a=digs n++post) (hw:digs n=c::r) (hn:n≤2147483647) (hp:∀ c,post.head?=some c→dig c=false) :
  tokAt s a c=(⟨1,n,[],a⟩,a+(digs n).length):=by
 obtain ⟨h1,h2,h3⟩:=digs_ok n
 have hl:=len_drop h ha
 have hd:dig c=true:=h1 c (by rw [hw];exact List.mem_cons_self)
 obtain ⟨g,hg⟩:∃ g,s.length+1=g+(digs n).length:=⟨s.length+1 - (digs n).length,by omega⟩
 unfold tokAt
 rw [if_pos hd,hg,number_app s (digs n) post g 0 a h h1,h2 hn,number_stop s post g _ _ (by rw [←List.drop_drop,h,List.drop_left]) hp]
theorem begins_drop {s r t:Str} {a:Nat} (h:s.drop a=r) (ha:a≤s.length):begins s a t=t.isPrefixOf r:=by
 have hl:a+r.length=s.length:=by have:=congrArg List.length h;simp at this;omega
 unfold begins
 rw [List.drop_take,h,Nat.add_sub_cancel_left]
 by_cases hp:t <+: r
 ·obtain ⟨z,rfl⟩:=hp
  simp only [List.length_append] at hl
  have h2:t.isPrefixOf (t++z)=true:=by rw [List.isPrefixOf_iff_prefix];exact ⟨z,rfl⟩
  rw [h2,List.take_left]
  simp only [Bool.and_eq_true,beq_self_eq_true,and_true,decide_eq_true_eq];omega
 ·have h1:t.isPrefixOf r=false:=by
   cases hh:t.isPrefixOf r with
   | false=>rfl
   | true=>exact absurd (List.isPrefixOf_iff_prefix.1 hh) hp
  rw [h1]
  have h2:(r.take t.length==t)=false:=by
   rw [beq_eq_false_iff_ne]
   intro h3
   exact hp ⟨r.drop t.length,by have:=List.take_append_drop t.length r;rw [h3] at this;exact this⟩
  rw [h2,Bool.and_false]
def seps:List UInt8:=[32,40,41,91,93,44,59,123,125,10]
def Sep (post:Str):Prop:=∀ c,post.head?=some c→c∈seps
theorem Sep.namb {post:Str} (h:Sep post):∀ c,post.head?=some c→namb c=false:=by
 intro c hc
 have:∀ c∈seps,Go.Sp.namb c=false:=by decide
 exact this c (h c hc)
theorem Sep.dig {post:Str} (h:Sep post):∀ c,post.head?=some c→dig c=false:=by
 intro c hc
 have:∀ c∈seps,Go.Sp.dig c=false:=by decide
 exact this c (h c hc)
theorem pre_cut {x y z:Str} (h:x.length≤y.length):x.isPrefixOf (y++z)=x.isPrefixOf y:=by
 induction x generalizing y with
 | nil=>simp
 | cons a x ih =>
  cases y with
  | nil=>simp at h
  | cons b y=>simp only [List.cons_append,List.isPrefixOf];rw [ih (by simpa using h)]
theorem find_congr {α:Type} {p q:α→Bool}:∀ {l:List α},(∀ x∈l,p x=q x)→l.find? p=l.find? q
 | [],_=>rfl
 | a::l,h=>by rw [List.find?_cons,List.find?_cons,h a (List.mem_cons_self),find_congr (fun x hx=>h x (List.mem_cons_of_mem _ hx))]
theorem sign_tok {s w post:Str} {a:Nat} {c:UInt8} {r:Str} (ha:a≤s.length) (h:s.drop a=w++post) (hw:w=c::r) (hm:w∈signs) (hp:Sep post) :
  tokAt s a c=(⟨3,0,w,a⟩,a+w.length)∧isBlank c=false∧begins s a [47,42]=false:=by
 have hd:∀ w∈signs,∀ c,w.head?=some c→dig c=false∧small c=false∧isBlank c=false:=by
  have:∀ w∈signs,(match w.head? with | some c=>!dig c&&!small c&&!isBlank c | none=>true)=true:=by decide
  intro w hw c hc
  have:=this w hw
  rw [hc] at this
  simp only [Bool.and_eq_true,Bool.not_eq_true'] at this
  exact ⟨this.1.1,this.1.2,this.2⟩
 obtain ⟨h1,h2,h3⟩:=hd w hm c (by rw [hw];rfl)
 have hlen2:∀ w∈signs,w.length≤2∧1≤w.length:=by decide
 have key:∀ w∈signs,signs.find? (fun x=>x.isPrefixOf w)=some w∧[47,42].isPrefixOf w=false:=by decide
 have key2:∀ w∈signs,∀ c∈seps,signs.find? (fun x=>x.isPrefixOf (w++[c]))=some w∧[47,42].isPrefixOf (w++[c])=false:=by decide
 have hf:signs.find? (begins s a)=some w∧begins s a [47,42]=false:=by
  have e1:∀ x,begins s a x=x.isPrefixOf (w++post):=fun x=>begins_drop h ha
  have e2:signs.find? (begins s a)=signs.find? (fun x=>x.isPrefixOf (w++post)):=find_congr fun x _=>e1 x
  rw [e2,e1]
  cases post with
  | nil=>rw [List.append_nil];exact key w hm
  | cons c' post =>
   have hc':=hp c' rfl
   have e3:∀ x:Str,x.length≤2→x.isPrefixOf (w++c'::post)=x.isPrefixOf (w++[c']):=fun x hx=>by
    rw [show w++c'::post=(w++[c'])++post by simp]
    exact pre_cut (by rw [List.length_append];have:=(hlen2 w hm).2;simp;omega)
   rw [find_congr fun x hx=>e3 x (hlen2 x hx).1,e3 _ (by decide)]
   exact key2 w hm c' hc'
 refine ⟨?_,h3,hf.2⟩
 unfold tokAt
 rw [if_neg (by rw [h1];decide),if_neg (by rw [h2];decide),hf.1]
theorem free_tok {s post:Str} {a:Nat} {c:UInt8} (ha:a≤s.length) (h:s.drop a=c::post) (hm:c∈[40,41,91,93,44,59,123,125]) :
  tokAt s a c=(⟨3,0,[c],a⟩,a+1)∧isBlank c=false∧begins s a [47,42]=false:=by
 have hd:∀ c∈([40,41,91,93,44,59,123,125]:List UInt8),dig c=false∧small c=false∧isBlank c=false∧c≠47:=by decide
 obtain ⟨h1,h2,h3,h4⟩:=hd c hm
 have e1:∀ x,begins s a x=x.isPrefixOf (c::post):=fun x=>begins_drop h ha
 have e2:signs.find? (begins s a)=signs.find? (fun x=>x.isPrefixOf (c::post)):=find_congr fun x _=>e1 x
 have key:∀ post:Str,∀ c∈([40,41,91,93,44,59,123,125]:List UInt8),signs.find? (fun x=>x.isPrefixOf (c::post))=some [c]:=by
  intro post c hc
  simp only [List.mem_cons,List.not_mem_nil,or_false] at hc
  rcases hc with rfl | rfl | rfl | rfl | rfl | rfl | rfl | rfl <;> rfl
 refine ⟨?_,h3,?_⟩
 ·unfold tokAt
  rw [if_neg (by rw [h1];decide),if_neg (by rw [h2];decide),e2,key post c hm];rfl
 ·rw [e1]
  simp only [List.isPrefixOf]
  have:((47:UInt8)==c)=false:=by rw [beq_eq_false_iff_ne];exact fun h=>h4 h.symm
  rw [this,Bool.false_and]
end Go.Sp
namespace Go.Im
open Go.Xp Go.Sp
def signsI:List Str:=[[105,110,116],[118,97,114],[102,117,110,99],[105,102],[101,108,115,101],[119,104,105,108,101],[114,101,116,117,114,110],[124,124],[38,38],[61,61],[33,61],[60,61],[62,61],[60,60],[62,62],[40],[41],[123],[125],[91],[93],[44],[59],[61],[60],[62],[43],[45],[42],[47],[37],[38],[124],[94],[33],[126]]
theorem signsI_eq:signsI=words++signs:=by decide
def isSg (s:Str):Bool:=signsI.contains s
def numI:Str→Int→Int
 | [],n=>n
 | c::r,n=>if n≤2147483647 then numI r (10 * n+((c.toNat:Int) - 48)) else n
def cutS (s:Str) (a b:Nat):Str:=(s.take b).drop a
def signTry (s:Str) (a:Nat) (k:Nat):Bool:=decide (a+k≤s.length)&&(match s[a]? with | some c=>!(small c) | none=>false)&&isSg (cutS s a (a+k))
def signI (s:Str) (a:Nat):Str:=if signTry s a 2=true then cutS s a (a+2) else if signTry s a 1=true then cutS s a (a+1) else []
def digEnd (s:Str) (a:Nat):Nat:=run s dig (s.length+1) a
def tok0:Tok:=⟨0,0,[],0⟩
def tokI (s:Str) (a:Nat) (c:UInt8):Tok × Nat × Int :=
 if dig c=true then
  if numI (cutS s a (digEnd s a)) 0 > 2147483647 then (tok0,a,3) else (⟨1,numI (cutS s a (digEnd s a)) 0,[],a⟩,digEnd s a,0)
 else if small c=true then (⟨if isSg (wordAt s a)=true then 3 else 2,0,wordAt s a,a⟩,wordEnd s a,0)
 else if signI s a=[] then (tok0,a,2)
 else (⟨3,0,signI s a,a⟩,a+(signI s a).length,0)
def idxI:Str→Option Nat
 | []=>none
 | b::l=>if List.isPrefixOf [42,47] (b::l) then some 0 else match idxI l with | none=>none | some n=>some (n+1)
def lexI (s:Str):Nat→Nat→List Tok→Option (List Tok × Int × Int)
 | 0,_,_=>none
 | f+1,a,acc=>match s[a]? with
  | none=>some (acc,0,0)
  | some c =>
   if isBlank c=true then lexI s f (a+1) acc
   else if begins s a [47,42]=true then
    match idxI (s.drop (a+2)) with
    | none=>some ([],4,a)
    | some n=>lexI s f (a+(n+4)) acc
   else if (tokI s a c).2.2≠0 then some ([],(tokI s a c).2.2,a)
   else lexI s f (tokI s a c).2.1 (acc++[(tokI s a c).1])
structure TokOk (t:Tok):Prop where
 num:t.kind=1→0≤t.n∧t.n≤2147483647∧t.s=[]
 name:t.kind=2→word t.s=true∧isSg t.s=false
 sign:t.kind=3→isSg t.s=true
 kinds:t.kind=1∨t.kind=2∨t.kind=3
theorem cutS_len {s:Str} {a b:Nat} (h:b≤s.length):(cutS s a b).length=b - a:=by
 unfold cutS;rw [List.length_drop,List.length_take];omega
theorem cutS_cons {s:Str} {a b:Nat} {c:UInt8} (h:s[a]?=some c) (hb:a < b) (hl:b≤s.length):cutS s a b=c::cutS s (a+1) b:=by
 unfold cutS
 have hlt:=(List.getElem?_eq_some_iff.1 h).1
 have:(s.take b)[a]?=some c:=by rw [List.getElem?_take,if_pos hb];exact h
 have h2:=(List.getElem?_eq_some_iff.1 this)
 rw [List.drop_eq_getElem_cons h2.1,h2.2]
theorem run_all (s:Str) (p:UInt8→Bool):∀ (f a:Nat),a≤s.length→∀ c∈cutS s a (run s p f a),p c=true:=by
 intro f
 induction f with
 | zero =>
  intro a ha c hc
  rw [Go.Sp.run] at hc
  have:(cutS s a a).length=0:=by rw [cutS_len ha];omega
  rw [List.eq_nil_of_length_eq_zero this] at hc;cases hc
 | succ f ih =>
  intro a ha c hc
  rw [Go.Sp.run] at hc
  have hnil:∀ x:Str,x=cutS s a a→c∈x→p c=true:=fun x hx hm=>by
   have:(cutS s a a).length=0:=by rw [cutS_len ha];omega
   rw [hx,List.eq_nil_of_length_eq_zero this] at hm;cases hm
  cases hq:s[a]? with
  | none=>rw [hq] at hc;exact hnil _ rfl hc
  | some d =>
   rw [hq] at hc
   simp only at hc
   have hlt:=(List.getElem?_eq_some_iff.1 hq).1
   by_cases hp:p d=true
   ·rw [if_pos hp] at hc
    have hge:a+1≤Go.Sp.run s p f (a+1)∧Go.Sp.run s p f (a+1)≤s.length:=by
     have:∀ (f a:Nat),a≤s.length→a≤Go.Sp.run s p f a∧Go.Sp.run s p f a≤s.length:=by
      intro f
      induction f with
      | zero=>intro a h;exact ⟨Nat.le_refl _,h⟩
      | succ f ih =>
       intro a h
       rw [Go.Sp.run]
       cases hq:s[a]? with
       | none=>exact ⟨Nat.le_refl _,h⟩
       | some d =>
        simp only
        split
        ·have:=ih (a+1) (List.getElem?_eq_some_iff.1 hq).1;omega
        ·exact ⟨Nat.le_refl _,h⟩
     exact this f (a+1) hlt
    rw [cutS_cons hq (by omega) hge.2] at hc
    rcases List.mem_cons.1 hc with rfl | hc
    ·exact hp
    ·exact ih (a+1) hlt c hc
   ·rw [if_neg hp] at hc;exact hnil _ rfl hc
theorem numI_ge:∀ (w:Str) (n:Int),0≤n→(∀ c∈w,dig c=true)→0≤numI w n
 | [],n,h,_=>h
 | c::r,n,h,hd=>by
  rw [numI]
  have hc:=hd c (List.mem_cons_self)
  simp only [dig,Bool.and_eq_true,decide_eq_true_eq] at hc
  split
  ·exact numI_ge r _ (by omega) (fun c hc=>hd c (List.mem_cons_of_mem _ hc))
  ·exact h
theorem isSg_len {x:Str} (h:isSg x=true):x≠[]:=by
 intro h0;subst h0;revert h;decide
theorem tokI_ok {s:Str} {a:Nat} {c:UInt8} (hc:s[a]?=some c) (h0:(tokI s a c).2.2=0):TokOk (tokI s a c).1∧(tokI s a c).1.at_=a∧a < (tokI s a c).2.1∧(tokI s a c).2.1≤s.length:=by
 have hlt:=(List.getElem?_eq_some_iff.1 hc).1
 unfold tokI at h0 ⊢
 by_cases hd:dig c=true
 ·rw [if_pos hd] at h0 ⊢
  by_cases hn:numI (cutS s a (digEnd s a)) 0 > 2147483647
  ·rw [if_pos hn] at h0;cases h0
  ·rw [if_neg hn]
   obtain ⟨e1,e2,e3⟩:=run_end s dig (s.length+1) a (by omega) (by omega)
   have hgt:a < digEnd s a:=by
    rcases Nat.lt_or_ge a (digEnd s a) with h | h
    ·exact h
    ·have he:Go.Sp.run s dig (s.length+1) a=a:=by unfold digEnd at h;omega
     have:=e1 c (by rw [he];exact hc)
     rw [hd] at this;cases this
   refine ⟨⟨fun _=>⟨numI_ge _ _ (by decide) (run_all s dig _ a (by omega)),by simpa using hn,rfl⟩,fun h=>by simp at h,fun h=>by simp at h,.inl rfl⟩,rfl,hgt,e3⟩
 ·rw [if_neg hd] at h0 ⊢
  by_cases hs:small c=true
  ·rw [if_pos hs]
   obtain ⟨e1,e2,e3⟩:=run_end s namb (s.length+1) a (by omega) (by omega)
   have hnb:namb c=true:=by simp [namb,hs]
   have hgt:a < wordEnd s a:=by
    rcases Nat.lt_or_ge a (wordEnd s a) with h | h
    ·exact h
    ·have he:Go.Sp.run s namb (s.length+1) a=a:=by unfold wordEnd at h;omega
     have:=e1 c (by rw [he];exact hc)
     rw [hnb] at this;cases this
   have hw:word (wordAt s a)=true:=by
    have h1:wordAt s a=c::cutS s (a+1) (wordEnd s a):=cutS_cons hc hgt e3
    have h2:=run_all s namb (s.length+1) a (by omega)
    unfold word
    have h3:(wordAt s a).all namb=true:=List.all_eq_true.2 h2
    rw [h3,h1];simp [hs]
   refine ⟨⟨fun h=>?_,fun h=>⟨hw,?_⟩,fun h=>?_,?_⟩,rfl,hgt,e3⟩
   ·simp only at h;split at h <;> cases h
   ·simp only at h
    split at h
    ·cases h
    ·rename_i hh;simpa using hh
   ·simp only at h
    split at h
    ·assumption
    ·cases h
   ·simp only;split
    ·exact .inr (.inr rfl)
    ·exact .inr (.inl rfl)
  ·rw [if_neg hs] at h0 ⊢
   by_cases hg:signI s a=[]
   ·rw [if_pos hg] at h0;cases h0
   ·rw [if_neg hg]
    have key:isSg (signI s a)=true∧a+(signI s a).length≤s.length:=by
     unfold signI at hg ⊢
     have aux:∀ k,signTry s a k=true→isSg (cutS s a (a+k))=true∧a+(cutS s a (a+k)).length≤s.length:=fun k h=>by
      simp only [signTry,Bool.and_eq_true,decide_eq_true_eq] at h
      refine ⟨h.2,?_⟩
      rw [cutS_len h.1.1];have:=h.1.1;omega
     split
     ·exact aux 2 (by assumption)
     ·rename_i h2
      rw [if_neg h2] at hg
      split
      ·exact aux 1 (by assumption)
      ·rename_i h1;rw [if_neg h1] at hg;exact absurd rfl hg
    have hl:=List.length_pos_iff.2 (isSg_len key.1)
    exact ⟨⟨fun h=>by simp at h,fun h=>by simp at h,fun _=>key.1,.inr (.inr rfl)⟩,rfl,by simp only;omega,key.2⟩
theorem idxI_le:∀ {l:Str} {n:Nat},idxI l=some n→n+2≤l.length
 | [],n,h=>by cases h
 | b::l,n,h=>by
  rw [idxI] at h
  split at h
  ·rename_i hp
   cases h
   cases l with
   | nil=>simp [List.isPrefixOf] at hp
   | cons d l=>simp
  ·cases hq:idxI l with
   | none=>rw [hq] at h;cases h
   | some m=>rw [hq] at h;cases h;have:=idxI_le hq;simp only [List.length_cons];omega
theorem lexI_some (s:Str):∀ (f a:Nat) (acc:List Tok),a≤s.length→s.length < f+a→(∀ t∈acc,TokOk t)→(acc.Pairwise fun x y=>x.at_ < y.at_)→(∀ t∈acc,t.at_ < (a:Int))→acc.length≤a →
  ∃ ts c z,lexI s f a acc=some (ts,c,z)∧(∀ t∈ts,TokOk t)∧(ts.Pairwise fun x y=>x.at_ < y.at_)∧ts.length≤s.length
 | 0,a,acc,h1,h2,_,_,_,_=>by omega
 | f+1,a,acc,h1,h2,h3,h4,h5,h6=>by
  rw [lexI]
  cases hc:s[a]? with
  | none=>exact ⟨acc,0,0,rfl,h3,h4,by omega⟩
  | some c =>
   simp only
   have hlt:=(List.getElem?_eq_some_iff.1 hc).1
   split
   ·exact lexI_some s f (a+1) acc (by omega) (by omega) h3 h4 (fun t ht=>by have:=h5 t ht;omega) (by omega)
   ·split
    ·rename_i hb
     have hbl:=begins_len hb
     simp only [List.length_cons,List.length_nil] at hbl
     cases hi:idxI (s.drop (a+2)) with
     | none=>exact ⟨[],4,a,rfl,fun t h=>by simp at h,.nil,Nat.zero_le _⟩
     | some n =>
      have:=idxI_le hi
      rw [List.length_drop] at this
      exact lexI_some s f (a+(n+4)) acc (by omega) (by omega) h3 h4 (fun t ht=>by have:=h5 t ht;omega) (by omega)
    ·split
     ·exact ⟨[],_,a,rfl,fun t h=>by simp at h,.nil,Nat.zero_le _⟩
     ·rename_i h0
      obtain ⟨k1,k2,k3,k4⟩:=tokI_ok hc (by simpa using h0)
      refine lexI_some s f _ _ k4 (by omega) (fun t ht=>?_) ?_ (fun t ht=>?_) (by rw [List.length_append];simp only [List.length_cons,List.length_nil];omega)
      ·rcases List.mem_append.1 ht with h | h
       ·exact h3 t h
       ·rw [List.mem_singleton] at h;subst h;exact k1
      ·rw [List.pairwise_append]
       refine ⟨h4,List.pairwise_singleton _ _,fun x hx y hy=>?_⟩
       rw [List.mem_singleton] at hy;subst hy;rw [k2];exact h5 x hx
      ·rcases List.mem_append.1 ht with h | h
       ·have:=h5 t h;omega
       ·rw [List.mem_singleton] at h;subst h;rw [k2];omega
theorem numI_number (s:Str):∀ (f:Nat) (n:Int) (a:Nat),a≤s.length→s.length < f+a→numI (cutS s a (number s f n a).2) n=(number s f n a).1
 | 0,n,a,h1,h2=>by omega
 | f+1,n,a,h1,h2=>by
  have hnil:cutS s a a=[]:=List.eq_nil_of_length_eq_zero (by rw [cutS_len h1];omega)
  rw [number]
  cases hc:s[a]? with
  | none=>simp only;rw [hnil,numI]
  | some c =>
   simp only
   have hlt:=(List.getElem?_eq_some_iff.1 hc).1
   by_cases hd:dig c=true
   ·rw [if_pos hd]
    obtain ⟨e1,e2,e3⟩:=number_end s f (if n≤2147483647 then n * 10+((c.toNat:Int) - 48) else n) (a+1) (by omega) (by omega)
    rw [cutS_cons hc (by omega) e3,numI]
    have ih:=numI_number s f (if n≤2147483647 then n * 10+((c.toNat:Int) - 48) else n) (a+1) (by omega) (by omega)
    by_cases hn:n≤2147483647
    ·rw [if_pos hn] at ih ⊢
     rw [if_pos hn,Int.mul_comm 10 n];exact ih
    ·rw [if_neg hn] at ih ⊢
     rw [if_neg hn]
     rw [←ih]
     cases hw:cutS s (a+1) (number s f n (a+1)).2 with
     | nil=>rw [numI]
     | cons d r=>rw [numI,if_neg hn]
   ·rw [if_neg hd];simp only;rw [hnil,numI]
theorem number_run (s:Str):∀ (f:Nat) (n:Int) (a:Nat),(number s f n a).2=Go.Sp.run s dig f a
 | 0,n,a=>rfl
 | f+1,n,a=>by
  rw [number,Go.Sp.run]
  cases hc:s[a]? with
  | none=>rfl
  | some c =>
   simp only
   split
   ·exact number_run s f _ (a+1)
   ·rfl
theorem begins_cut {s x:Str} {a:Nat}:begins s a x=(decide (a+x.length≤s.length)&&(cutS s a (a+x.length)==x)):=rfl
theorem signI_find {s:Str} {a:Nat} {c:UInt8} (hc:s[a]?=some c) (hs:small c=false):signI s a=(match signs.find? (begins s a) with | some x=>x | none=>[]):=by
 have hlt:=(List.getElem?_eq_some_iff.1 hc).1
 have h2:∀ x∈signs,x.length=1∨x.length=2:=by decide
 have hsplit:signs=signs.take 8++signs.drop 8:=(List.take_append_drop 8 signs).symm
 have hl2:∀ x∈signs.take 8,x.length=2:=by decide
 have hl1:∀ x∈signs.drop 8,x.length=1:=by decide
 have hw:∀ x∈words,∃ d r,x=d::r∧small d=true:=by
  intro x hx
  have:∀ x∈words,(match x with | d::_=>small d | []=>false)=true:=by decide
  have:=this x hx
  cases x with
  | nil=>cases this
  | cons d r=>exact ⟨d,r,rfl,this⟩
 have hcut:∀ k,1≤k→a+k≤s.length→cutS s a (a+k)=c::cutS s (a+1) (a+k):=fun k h1 h2=>cutS_cons hc (by omega) h2
 have hsg:∀ k,1≤k→a+k≤s.length→(isSg (cutS s a (a+k))=true↔cutS s a (a+k)∈signs):=fun k h1 h2=>by
  unfold isSg
  rw [signsI_eq,List.contains_iff_mem,List.mem_append]
  refine ⟨fun h=>h.resolve_left fun hm=>?_,.inr⟩
  obtain ⟨d,r,e1,e2⟩:=hw _ hm
  rw [hcut k h1 h2] at e1
  cases e1;rw [hs] at e2;cases e2
 have htry:∀ k,1≤k→(signTry s a k=true↔a+k≤s.length∧cutS s a (a+k)∈signs):=fun k h1=>by
  unfold signTry
  rw [hc]
  simp only [hs,Bool.not_false,Bool.and_true,Bool.and_eq_true,decide_eq_true_eq]
  exact ⟨fun ⟨p,q⟩=>⟨p,(hsg k h1 p).1 q⟩,fun ⟨p,q⟩=>⟨p,(hsg k h1 p).2 q⟩⟩
 have hmem:∀ k,1≤k→k≤2→a+k≤s.length→cutS s a (a+k)∈signs→(cutS s a (a+k)).length=k:=fun k _ _ h _=>by rw [cutS_len h];omega
 unfold signI
 by_cases t2:signTry s a 2=true
 ·rw [if_pos t2]
  obtain ⟨p,q⟩:=(htry 2 (by decide)).1 t2
  have hq:cutS s a (a+2)∈signs.take 8:=by
   rw [hsplit] at q
   rcases List.mem_append.1 q with h | h
   ·exact h
   ·have:=hl1 _ h;rw [cutS_len p] at this;omega
  rw [hsplit,List.find?_append]
  have:(signs.take 8).find? (begins s a)=some (cutS s a (a+2)):=by
   cases hf:(signs.take 8).find? (begins s a) with
   | none =>
    rw [List.find?_eq_none] at hf
    have h1:=hf _ hq
    rw [begins_cut,cutS_len p,show a+(a+2 - a)=a+2 by omega] at h1
    simp [p] at h1
   | some x =>
    have h1:=List.find?_some hf
    have h3:=hl2 x (List.mem_of_find?_eq_some hf)
    rw [begins_cut,h3] at h1
    simp only [Bool.and_eq_true,beq_iff_eq] at h1
    rw [h1.2]
  rw [this];rfl
 ·rw [if_neg t2]
  have hno2:(signs.take 8).find? (begins s a)=none:=by
   rw [List.find?_eq_none]
   intro x hx hb
   rw [begins_cut,hl2 x hx] at hb
   simp only [Bool.and_eq_true,beq_iff_eq,decide_eq_true_eq] at hb
   exact t2 ((htry 2 (by decide)).2 ⟨hb.1,by rw [hb.2];exact List.mem_of_mem_take hx⟩)
  rw [hsplit,List.find?_append,hno2]
  by_cases t1:signTry s a 1=true
  ·rw [if_pos t1]
   obtain ⟨p,q⟩:=(htry 1 (by decide)).1 t1
   have hq:cutS s a (a+1)∈signs.drop 8:=by
    rw [hsplit] at q
    rcases List.mem_append.1 q with h | h
    ·have:=hl2 _ h;rw [cutS_len p] at this;omega
    ·exact h
   have:(signs.drop 8).find? (begins s a)=some (cutS s a (a+1)):=by
    cases hf:(signs.drop 8).find? (begins s a) with
    | none =>
     rw [List.find?_eq_none] at hf
     have h1:=hf _ hq
     rw [begins_cut,cutS_len p,show a+(a+1 - a)=a+1 by omega] at h1
     simp [p] at h1
    | some x =>
     have h1:=List.find?_some hf
     have h3:=hl1 x (List.mem_of_find?_eq_some hf)
     rw [begins_cut,h3] at h1
     simp only [Bool.and_eq_true,beq_iff_eq] at h1
     rw [h1.2]
   rw [this];rfl
  ·rw [if_neg t1]
   have:(signs.drop 8).find? (begins s a)=none:=by
    rw [List.find?_eq_none]
    intro x hx hb
    rw [begins_cut,hl1 x hx] at hb
    simp only [Bool.and_eq_true,beq_iff_eq,decide_eq_true_eq] at hb
    exact t1 ((htry 1 (by decide)).2 ⟨hb.1,by rw [hb.2];exact List.mem_of_mem_drop hx⟩)
   rw [this];rfl
theorem tokI_at {s:Str} {a a':Nat} {c:UInt8} {t:Tok} (hc:s[a]?=some c) (h:tokAt s a c=(t,a')) (hk:t.kind=1∨t.kind=2∨t.kind=3) (hn:t.n≤2147483647):tokI s a c=(t,a',0):=by
 have hlt:=(List.getElem?_eq_some_iff.1 hc).1
 unfold tokAt at h
 unfold tokI
 by_cases hd:dig c=true
 ·rw [if_pos hd] at h ⊢
  cases h
  have e1:digEnd s a=(number s (s.length+1) 0 a).2:=(number_run s _ 0 a).symm
  rw [e1,numI_number s _ 0 a (by omega) (by omega),if_neg (by simpa using hn)]
 ·rw [if_neg hd] at h ⊢
  by_cases hs:small c=true
  ·rw [if_pos hs] at h ⊢
   cases h
   have hw1:∃ r,wordAt s a=c::r∨wordAt s a=[]:=by
    cases hw:wordAt s a with
    | nil=>exact ⟨[],.inr rfl⟩
    | cons d r =>
     obtain ⟨e1,e2,e3⟩:=run_end s namb (s.length+1) a (by omega) (by omega)
     have hnb:namb c=true:=by simp [namb,hs]
     have hgt:a < wordEnd s a:=by
      rcases Nat.lt_or_ge a (wordEnd s a) with h | h
      ·exact h
      ·have he:Go.Sp.run s namb (s.length+1) a=a:=by unfold wordEnd at h;omega
       have:=e1 c (by rw [he];exact hc)
       rw [hnb] at this;cases this
     have h1:wordAt s a=c::cutS s (a+1) (wordEnd s a):=cutS_cons hc hgt e3
     rw [hw] at h1;cases h1;exact ⟨_,.inl rfl⟩
   have hsg:isSg (wordAt s a)=words.contains (wordAt s a):=by
    unfold isSg
    rw [signsI_eq]
    have hns:∀ x∈signs,(match x with | d::_=>small d | []=>true)=false:=by decide
    obtain ⟨r,h1⟩:=hw1
    have:signs.contains (wordAt s a)=false:=by
     cases hcn:signs.contains (wordAt s a) with
     | false=>rfl
     | true =>
      have:=hns _ (List.contains_iff_mem.1 hcn)
      rcases h1 with h1 | h1 <;> rw [h1] at this <;> simp only at this
      ·rw [hs] at this;cases this
      ·cases this
    rw [Bool.eq_iff_iff,List.contains_iff_mem,List.mem_append,←List.contains_iff_mem (as:=signs),this]
    simp
   rw [hsg]
  ·rw [if_neg hs] at h ⊢
   rw [signI_find hc (by simpa using hs)]
   cases hf:signs.find? (begins s a) with
   | none=>rw [hf] at h;cases h;simp at hk
   | some x =>
    rw [hf] at h
    cases h
    simp only
    have hx:=List.mem_of_find?_eq_some hf
    have hne:x≠[]:=by
     intro h0;subst h0;revert hx;decide
    rw [if_neg hne]
theorem lexI_tz {s:Str} {a b:Nat} {ts:List Tok} (h:Tz s a ts b):b=s.length→∀ (f:Nat) (acc:List Tok),s.length < f+a→lexI s f a acc=some (acc++ts,0,0):=by
 induction h with
 | nil a =>
  intro hb f acc hf
  cases f with
  | zero=>omega
  | succ f =>
   rw [lexI]
   have:s[a]?=none:=List.getElem?_eq_none_iff.2 (by omega)
   rw [this];simp
 | blank hc hbl h ih =>
  intro hb f acc hf
  cases f with
  | zero=>have:=(List.getElem?_eq_some_iff.1 hc).1;omega
  | succ f =>
   rw [lexI,hc]
   simp only
   rw [if_pos hbl]
   exact ih hb f acc (by omega)
 | tok hc hbl hr ht hk hn ha h ih =>
  intro hb f acc hf
  cases f with
  | zero=>have:=(List.getElem?_eq_some_iff.1 hc).1;omega
  | succ f =>
   rw [lexI,hc]
   simp only
   rw [if_neg (by rw [hbl];decide),if_neg (by rw [hr];decide),tokI_at hc ht hk hn]
   simp only [ne_eq,not_true_eq_false,if_false]
   rw [ih hb f _ (by omega)]
   simp
end Go.Im
namespace Go.Im
open Go.Xp Go.Sp
abbrev TOs (ts:List Tok):Prop:=∀ t∈ts,TokOk t
def EF (t:T):Prop:=∃ a:E,a.ok=true∧er t=a.tree
def EFs (l:List T):Prop:=∃ es:List E,E.oks es=true∧ers l=E.trees es
def Sf (ts r:List Tok) (n:Nat):Prop:=∃ pre,ts=pre++r∧n≤pre.length
theorem Sf.nil (ts:List Tok):Sf ts ts 0:=⟨[],rfl,Nat.zero_le _⟩
theorem Sf.one (t:Tok) (ts:List Tok):Sf (t::ts) ts 1:=⟨[t],rfl,Nat.le_refl _⟩
theorem Sf.trans {a b c:List Tok} {n m:Nat} (h:Sf a b n) (k:Sf b c m):Sf a c (n+m):=by
 obtain ⟨p,rfl,h⟩:=h
 obtain ⟨q,rfl,k⟩:=k
 exact ⟨p++q,by simp,by rw [List.length_append];omega⟩
theorem Sf.le {a b:List Tok} {n m:Nat} (h:Sf a b n) (k:m≤n):Sf a b m:=by
 obtain ⟨p,rfl,h⟩:=h
 exact ⟨p,rfl,by omega⟩
theorem Sf.ok {a b:List Tok} {n:Nat} (h:Sf a b n) (k:TOs a):TOs b:=by
 obtain ⟨p,rfl,h⟩:=h
 exact fun t ht=>k t (List.mem_append_right _ ht)
theorem Sf.must {e:Int} {s:Str} {ts r:List Tok} (hs:s≠[]) (h:must e s ts=.ok r):Sf ts r 1:=by
 obtain ⟨u,rfl,_⟩:=must_suf hs h
 exact .one u r
theorem Sf.sign {s:Str} {ts:List Tok} (hs:s≠[]) (h:sign ts 0=s):Sf ts ts.tail 1:=by
 obtain ⟨u,h1,_⟩:=sign_suf hs h
 rw [h1];exact .one u _
theorem sg_words {s:Str} (h:isSg s=false):words.contains s=false:=by
 unfold isSg at h
 rw [signsI_eq] at h
 cases hc:words.contains s with
 | false=>rfl
 | true =>
  rw [List.contains_iff_mem] at hc
  have:(words++signs).contains s=true:=by rw [List.contains_iff_mem];exact List.mem_append_left _ hc
  rw [h] at this;cases this
theorem nm_ok {t:Tok} (h:TokOk t) (hk:t.kind=2) (hl:t.s.length≤12):nameOk t.s=true:=by
 obtain ⟨h1,h2⟩:=h.name hk
 unfold nameOk
 rw [h1,sg_words h2];simpa using hl
theorem Sf.name {e:Int} {s:Str} {ts r:List Tok} (h:name e ts=.ok (s,r)) (ho:TOs ts):Sf ts r 1∧nameOk s=true:=by
 obtain ⟨u,rfl,h1,rfl,h3⟩:=name_suf h
 exact ⟨.one u r,nm_ok (ho u List.mem_cons_self) h1 h3⟩
theorem any_lev {s:Str} {k:Nat} (h:s∈levels.getD k []):anySign s=true:=by
 unfold anySign
 rw [List.any_eq_true]
 rw [List.getD_eq_getElem?_getD] at h
 cases hk:levels[k]? with
 | none=>rw [hk] at h;simp at h
 | some l =>
  rw [hk] at h
  exact ⟨l,List.mem_of_getElem? hk,by rw [List.contains_iff_mem];exact h⟩
theorem szT_one (k a:Int) (s:Str) (l:List T):szT (one k a s l)=szL l+1:=by unfold one;rw [szT]
theorem EFs.snoc {l:List T} {t:T} (h:EFs l) (k:EF t):EFs (l++[t]):=by
 obtain ⟨es,h1,h2⟩:=h
 obtain ⟨a,h3,h4⟩:=k
 have key:∀ es:List E,E.oks es=true→E.oks (es++[a])=true∧E.trees (es++[a])=E.trees es++[a.tree]:=by
  intro es
  induction es with
  | nil=>intro _;simp [E.oks,E.trees,h3]
  | cons b es ih =>
   intro h
   simp only [E.oks,Bool.and_eq_true] at h
   obtain ⟨k1,k2⟩:=ih h.2
   simp only [List.cons_append,E.oks,E.trees,k1,k2,h.1];simp
 obtain ⟨k1,k2⟩:=key es h1
 exact ⟨es++[a],k1,by rw [ers_app,h2,k2,ers,ers,h4]⟩
def jsz:Job→Nat
 | .loop _ _ out=>szT out
 | _=>0
def jok:Job→Prop
 | .loop _ _ out=>EF out
 | _=>True
theorem rd_form (e:Int):∀ f,(∀ j ts t r,TOs ts→jok j→rd e f j ts=.ok (t,r)→EF t∧∃ n,Sf ts r n∧szT t≤n+jsz j) ∧
  (∀ d acc ts l r,TOs ts→EFs acc→rd.args e f d acc ts=.ok (l,r)→EFs l∧∃ n,Sf ts r n∧szL l+1≤n+szL acc):=by
 intro f
 induction f with
 | zero=>exact ⟨fun j ts t r _ _ h=>by simp [rd] at h,fun d acc ts l r _ _ h=>by simp [rd.args] at h⟩
 | succ f ih =>
  obtain ⟨ih,iha⟩:=ih
  refine ⟨fun j ts t r ho hj h=>?_,fun d acc ts l r ho hj h=>?_⟩
  ·cases j with
   | expr d =>
    rw [rd] at h
    split at h
    ·cases h
    ·exact ih (.level 0 (d+1)) ts t r ho trivial h
   | level k d =>
    rw [rd] at h
    split at h
    ·exact ih (.operand d) ts t r ho trivial h
    ·split at h
     ·cases h
     ·rename_i out ts' hx
      obtain ⟨h1,n,h2,h3⟩:=ih (.level (k+1) d) ts out ts' ho trivial hx
      obtain ⟨k1,m,k2,k3⟩:=ih (.loop k d out) ts' t r (h2.ok ho) h1 h
      exact ⟨k1,n+m,h2.trans k2,by simp only [jsz] at *;omega⟩
   | loop k d out =>
    cases ts with
    | nil=>rw [rd] at h;cases h;exact ⟨hj,0,.nil _,by simp only [jsz];omega⟩
    | cons t0 r0 =>
     rw [rd] at h
     split at h
     ·rename_i hc
      split at h
      ·cases h
      ·rename_i b r1 hx
       obtain ⟨⟨b',h0,h1⟩,n,h2,h3⟩:=ih (.level (k+1) d) r0 b r1 (fun t ht=>ho t (List.mem_cons_of_mem _ ht)) trivial hx
       obtain ⟨o',h4,h5⟩:=hj
       have h6:=(Sf.one t0 r0).trans h2
       obtain ⟨k1,m,k2,k3⟩:=ih (.loop k d (one 6 t0.at_ t0.s [out,b])) r1 t r (h6.ok ho) ⟨.bin t0.s o' b',by simp only [E.ok,any_lev hc.2,h4,h0];rfl,by rw [er_one,ers,ers,ers,h5,h1,E.tree]⟩ h
       refine ⟨k1,_,h6.trans k2,?_⟩
       simp only [jsz,szT_one,szL] at *
       omega
     ·cases h;exact ⟨hj,0,.nil _,by simp only [jsz];omega⟩
   | operand d =>
    cases ts with
    | nil =>
     rw [rd] at h
     split at h <;> cases h
    | cons t0 r0 =>
     rw [rd] at h
     split at h
     ·cases h
     ·have ho0:TOs r0:=fun t ht=>ho t (List.mem_cons_of_mem _ ht)
      have hs0:=Sf.one t0 r0
      split at h
      ·split at h
       ·rename_i hu
        split at h
        ·cases h
        ·rename_i a r1 hx
         cases h
         obtain ⟨⟨a',h0,h1⟩,n,h2,h3⟩:=ih (.operand (d+1)) r0 a r ho0 trivial hx
         refine ⟨⟨.un t0.s a',?_,by rw [er_one,ers,ers,h1,E.tree]⟩,_,hs0.trans h2,?_⟩
         ·simp only [E.ok,h0]
          rcases hu with hu | hu | hu <;> simp [hu]
         ·simp only [jsz,szT_one,szL] at *;omega
       ·split at h
        ·split at h
         ·cases h
         ·rename_i a r1 hx
          split at h
          ·cases h
          ·rename_i r2 hm
           cases h
           obtain ⟨h1,n,h2,h3⟩:=ih (.expr (d+1)) r0 t r1 ho0 trivial hx
           exact ⟨h1,_,(hs0.trans h2).trans (Sf.must (by decide) hm),by simp only [jsz] at *;omega⟩
        ·cases h
      ·split at h
       ·rename_i hk
        cases h
        obtain ⟨k1,k2,k3⟩:=(ho t0 List.mem_cons_self).num hk
        exact ⟨⟨.num t0.n,by simp only [E.ok];simp [k1,k2],by rw [er,ers,E.tree]⟩,1,hs0,by simp only [jsz,szT,szL];omega⟩
       ·split at h
        ·cases h
        ·rename_i s r1 hnm
         obtain ⟨k1,k2⟩:=Sf.name hnm ho
         split at h
         ·rename_i hb
          have k3:=k1.trans (Sf.sign (by decide) hb)
          split at h
          ·cases h
          ·rename_i a r2 hx
           split at h
           ·cases h
           ·rename_i r3 hm
            cases h
            obtain ⟨⟨a',h0,h1⟩,n,h2,h3⟩:=ih (.expr (d+1)) _ a r2 (k3.ok ho) trivial hx
            refine ⟨⟨.at_ s a',by simp only [E.ok,k2,h0];rfl,by rw [er_one,ers,ers,h1,E.tree]⟩,_,(k3.trans h2).trans (Sf.must (by decide) hm),?_⟩
            simp only [jsz,szT_one,szL] at *;omega
         ·split at h
          ·rename_i hb
           have k3:=k1.trans (Sf.sign (by decide) hb)
           split at h
           ·cases h
           ·rename_i l r2 hx
            cases h
            obtain ⟨⟨es,h0,h1⟩,n,h2,h3⟩:=iha _ _ _ l r (k3.ok ho) ⟨[],rfl,rfl⟩ hx
            refine ⟨⟨.call s es,by simp only [E.ok,k2,h0];rfl,by rw [er_one,h1,E.tree]⟩,_,k3.trans h2,?_⟩
            simp only [jsz,szT_one,szL] at *;omega
          ·cases h
           exact ⟨⟨.name s,by simp only [E.ok,k2],by rw [er_one,ers,E.tree]⟩,1,k1,by simp only [jsz,szT_one,szL];omega⟩
  ·rw [rd.args] at h
   split at h
   ·rename_i hc
    cases h
    exact ⟨hj,1,Sf.sign (by decide) hc,by omega⟩
   ·split at h
    ·cases h
    ·rename_i ts1 hx
     have h0:Sf ts ts1 0:=by
      split at hx
      ·cases hx;exact .nil _
      ·exact (Sf.must (by decide) hx).le (Nat.zero_le _)
     split at h
     ·cases h
     ·rename_i a ts2 hy
      obtain ⟨h1,n,h2,h3⟩:=ih (.expr d) ts1 a ts2 (h0.ok ho) trivial hy
      have h4:=h0.trans h2
      obtain ⟨k1,m,k2,k3⟩:=iha _ (acc++[a]) ts2 l r (h4.ok ho) (hj.snoc h1) h
      refine ⟨k1,_,h4.trans k2,?_⟩
      simp only [jsz,szL_app,szL] at *;omega
theorem expr_form {e:Int} {d:Nat} {ts r:List Tok} {t:T} (ho:TOs ts) (h:expr e d ts=.ok (t,r)):EF t∧Sf ts r (szT t):=by
 obtain ⟨h1,n,h2,h3⟩:=(rd_form e _).1 (.expr d) ts t r ho trivial h
 exact ⟨h1,h2.le (by simpa [jsz] using h3)⟩
theorem inner_form {e:Int} {d:Nat} {a b:Str} {ts r:List Tok} {t:T} (ha:a≠[]) (hb:b≠[]) (ho:TOs ts) (h:inner e d a b ts=.ok (t,r)):EF t∧Sf ts r (szT t+2):=by
 unfold inner at h
 split at h
 ·cases h
 ·rename_i ts1 h1
  have k1:=Sf.must ha h1
  split at h
  ·cases h
  ·rename_i t' ts2 h2
   obtain ⟨k2,k3⟩:=expr_form (k1.ok ho) h2
   split at h
   ·cases h
   ·rename_i ts3 h3
    cases h
    exact ⟨k2,((k1.trans k3).trans (Sf.must hb h3)).le (by omega)⟩
theorem setTo_form {e:Int} {d:Nat} {ts r:List Tok} {s:Str} {t:T} (ho:TOs ts) (h:setTo e d ts=.ok ((s,t),r)):nameOk s=true∧EF t∧Sf ts r (szT t+3):=by
 unfold setTo at h
 split at h
 ·cases h
 ·rename_i s' ts1 h1
  obtain ⟨k1,k2⟩:=Sf.name h1 ho
  split at h
  ·cases h
  ·rename_i t' ts2 h2
   cases h
   obtain ⟨k3,k4⟩:=inner_form (by decide) (by decide) (k1.ok ho) h2
   exact ⟨k2,k3,(k1.trans k4).le (by omega)⟩
def SF (t:T):Prop:=∃ a:S,a.ok=true∧er t=a.tree
def SFs (l:List T):Prop:=∃ es:List S,S.oks es=true∧ers l=S.trees es
def BF (t:T):Prop:=∃ l:List S,S.oks l=true∧er t=blkTree l
theorem SFs.snoc {l:List T} {t:T} (h:SFs l) (k:SF t):SFs (l++[t]):=by
 obtain ⟨es,h1,h2⟩:=h
 obtain ⟨a,h3,h4⟩:=k
 have key:∀ es:List S,S.oks es=true→S.oks (es++[a])=true∧S.trees (es++[a])=S.trees es++[a.tree]:=by
  intro es
  induction es with
  | nil=>intro _;simp [S.oks,S.trees,h3]
  | cons b es ih =>
   intro h
   simp only [S.oks,Bool.and_eq_true] at h
   obtain ⟨k1,k2⟩:=ih h.2
   simp only [List.cons_append,S.oks,S.trees,k1,k2,h.1];simp
 obtain ⟨k1,k2⟩:=key es h1
 exact ⟨es++[a],k1,by rw [ers_app,h2,k2,ers,ers,h4]⟩
theorem put_form {t:T} (h:EF t) (hk:t.n.kind=3):∃ (s:Str) (a:T),t.kids=[a]∧t.n.s=s∧nameOk s=true∧EF a:=by
 obtain ⟨a,h1,h2⟩:=h
 have h3:=congrArg (fun x=>x.n.kind) h2
 simp only [er_n,hk] at h3
 cases a with
 | at_ s b =>
  simp only [E.ok,Bool.and_eq_true] at h1
  have h4:t.n.s=s:=by have:=congrArg (fun x=>x.n.s) h2;simp only [er_n] at this;exact this
  have h5:ers t.kids=[b.tree]:=by rw [←er_kids,h2];rfl
  match hl:t.kids,h5 with
  | [x],h5 =>
   rw [ers,ers] at h5
   injection h5 with h6
   exact ⟨s,x,rfl,h4,h1.1,b,h1.2,h6⟩
  | [],h5=>rw [ers] at h5;cases h5
  | x::y::r,h5=>rw [ers,ers] at h5;injection h5 with h6 h7;cases h7
 | num n=>simp [E.tree,T.n] at h3
 | name n=>simp [E.tree,T.n] at h3
 | call s l=>simp [E.tree,T.n] at h3
 | un s a=>simp [E.tree,T.n] at h3
 | bin s a b=>simp [E.tree,T.n] at h3
theorem simple_form {e:Int} {d:Nat} {ts r:List Tok} {t:T} (ho:TOs ts) (h:simple e d ts=.ok (t,r)):SF t∧Sf ts r (szT t):=by
 unfold simple at h
 split at h
 ·split at h <;> cases h
 ·rename_i t0 r0
  split at h
  ·split at h
   ·cases h
   ·rename_i s a ts1 h1
    cases h
    obtain ⟨k1,⟨a',k2,k3⟩,k4⟩:=setTo_form ho h1
    exact ⟨⟨.set s a',by simp only [S.ok,k1,k2];rfl,by rw [er_one,ers,ers,k3,S.tree]⟩,k4.le (by simp only [szT_one,szL];omega)⟩
  ·split at h
   ·cases h
   ·rename_i a ts1 h1
    obtain ⟨k1,k2⟩:=expr_form ho h1
    split at h
    ·rename_i hc
     split at h
     ·cases h
     ·rename_i v ts2 h2
      cases h
      obtain ⟨⟨v',k3,k4⟩,k5⟩:=inner_form (by decide) (by decide) (k2.ok ho) h2
      obtain ⟨s,x,k6,k7,k8,x',k9,k10⟩:=put_form k1 hc.1
      have hz:=szT_eq a
      rw [k6] at hz
      simp only [szL] at hz
      rw [k6]
      refine ⟨⟨.put s x' v',by simp only [S.ok,k8,k9,k3];rfl,?_⟩,(k2.trans k5).le ?_⟩
      ·rw [er_one,k7];simp only [List.take_succ_cons,List.take_zero,List.cons_append,List.nil_append,ers,k10,k4,S.tree]
      ·simp only [List.take_succ_cons,List.take_zero,List.cons_append,List.nil_append,szT_one,szL];omega
    ·split at h
     ·cases h
     ·rename_i ts2 h2
      cases h
      obtain ⟨a',k3,k4⟩:=k1
      exact ⟨⟨.do_ a',by simp only [S.ok,k3],by rw [er_one,ers,ers,k4,S.tree]⟩,(k2.trans (Sf.must (by decide) h2)).le (by simp only [szT_one,szL];omega)⟩
theorem rs_form (e:Int):∀ f,(∀ d ts t r,TOs ts→rs e f (.block d) ts=.ok (t,r)→BF t∧Sf ts r (szT t))∧(∀ d ts t r,TOs ts→rs e f (.stmt d) ts=.ok (t,r)→SF t∧Sf ts r (szT t)) ∧
  (∀ d acc ts l r,TOs ts→SFs acc→rs.body e f d acc ts=.ok (l,r)→SFs l∧∃ n,Sf ts r n∧szL l+1≤n+szL acc):=by
 intro f
 induction f with
 | zero=>exact ⟨fun d ts t r _ h=>by simp [rs] at h,fun d ts t r _ h=>by simp [rs] at h,fun d acc ts l r _ _ h=>by simp [rs.body] at h⟩
 | succ f ih =>
  obtain ⟨ihb,ihs,ihl⟩:=ih
  refine ⟨fun d ts t r ho h=>?_,fun d ts t r ho h=>?_,fun d acc ts l r ho hj h=>?_⟩
  ·rw [rs] at h
   split at h
   ·cases h
   ·split at h
    ·cases h
    ·rename_i r1 h1
     have k1:=Sf.must (by decide) h1
     split at h
     ·cases h
     ·rename_i l r2 h2
      cases h
      obtain ⟨⟨es,k2,k3⟩,n,k4,k5⟩:=ihl _ [] r1 l r (k1.ok ho) ⟨[],rfl,rfl⟩ h2
      exact ⟨⟨es,k2,by rw [er_one,k3,blkTree]⟩,(k1.trans k4).le (by simp only [szT_one,szL] at *;omega)⟩
  ·rw [rs] at h
   split at h
   ·cases h
   ·simp only at h
    split at h
    ·rename_i hs
     have k0:=Sf.sign (by decide) hs
     split at h
     ·cases h
     ·rename_i s a ts1 h1
      cases h
      obtain ⟨k1,⟨a',k2,k3⟩,k4⟩:=setTo_form (k0.ok ho) h1
      exact ⟨⟨.var s a',by simp only [S.ok,k1,k2];rfl,by rw [er_one,ers,ers,k3,S.tree]⟩,(k0.trans k4).le (by simp only [szT_one,szL];omega)⟩
    ·split at h
     ·rename_i hs
      have k0:Sf ts ts.tail 1:=by
       rcases hs with hs | hs
       ·exact Sf.sign (by decide) hs
       ·exact Sf.sign (by decide) hs
      split at h
      ·cases h
      ·rename_i c r1 h1
       obtain ⟨⟨c',k1,k2⟩,k3⟩:=inner_form (by decide) (by decide) (k0.ok ho) h1
       have k4:=k0.trans k3
       split at h
       ·cases h
       ·rename_i b r2 h2
        obtain ⟨⟨lb,k5,k6⟩,k7⟩:=ihb _ _ b r2 (k4.ok ho) h2
        have k8:=k4.trans k7
        split at h
        ·split at h
         ·rename_i hel
          have k9:=k8.trans (Sf.sign (by decide) hel)
          split at h
          ·cases h
          ·rename_i b2 r3 h3
           cases h
           obtain ⟨⟨lb2,j5,j6⟩,j7⟩:=ihb _ _ b2 r (k9.ok ho) h3
           refine ⟨⟨.if2 c' lb lb2,by simp only [S.ok,k1,k5,j5];rfl,?_⟩,(k9.trans j7).le (by simp only [szT_one,szL];omega)⟩
           rw [er_one,ers,ers,ers,ers,k2,k6,j6,S.tree,blkTree,blkTree]
         ·cases h
          refine ⟨⟨.if1 c' lb,by simp only [S.ok,k1,k5];rfl,?_⟩,k8.le (by simp only [szT_one,szL];omega)⟩
          rw [er_one,ers,ers,ers,k2,k6,S.tree,blkTree]
        ·cases h
         refine ⟨⟨.while_ c' lb,by simp only [S.ok,k1,k5];rfl,?_⟩,k8.le (by simp only [szT_one,szL];omega)⟩
         rw [er_one,ers,ers,ers,k2,k6,S.tree,blkTree]
     ·split at h
      ·rename_i hs
       have k0:=Sf.sign (by decide) hs
       split at h
       ·cases h
       ·rename_i a ts1 h1
        obtain ⟨⟨a',k1,k2⟩,k3⟩:=expr_form (k0.ok ho) h1
        split at h
        ·cases h
        ·rename_i ts2 h2
         cases h
         exact ⟨⟨.ret a',by simp only [S.ok,k1],by rw [er_one,ers,ers,k2,S.tree]⟩,((k0.trans k3).trans (Sf.must (by decide) h2)).le (by simp only [szT_one,szL];omega)⟩
      ·exact simple_form ho h
  ·rw [rs.body] at h
   split at h
   ·rename_i hc
    cases h
    exact ⟨hj,1,Sf.sign (by decide) hc,by omega⟩
   ·split at h
    ·cases h
    ·rename_i a ts1 h1
     obtain ⟨k1,k2⟩:=ihs _ ts a ts1 ho h1
     obtain ⟨k3,m,k4,k5⟩:=ihl _ (acc++[a]) ts1 l r (k2.ok ho) (hj.snoc k1) h
     refine ⟨k3,_,k2.trans k4,?_⟩
     simp only [szL_app,szL] at *;omega
theorem block_form {e:Int} {d:Nat} {ts r:List Tok} {t:T} (ho:TOs ts) (h:block e d ts=.ok (t,r)):BF t∧Sf ts r (szT t):=(rs_form e _).1 _ ts t r ho h
end Go.Im
namespace Go.Sp
open Go.Xp
def LexF (x:Str) (l:List K):Prop:=∀ pre post:Str,∃ ts,ts.map kf=l∧Tz (pre++(x++post)) pre.length ts (pre.length+x.length)
def LexS (x:Str) (l:List K):Prop:=∀ pre post:Str,Sep post→∃ ts,ts.map kf=l∧Tz (pre++(x++post)) pre.length ts (pre.length+x.length)
theorem LexF.s {x:Str} {l:List K} (h:LexF x l):LexS x l:=fun pre post _=>h pre post
theorem LexF.app {x y:Str} {l m:List K} (h:LexF x l) (k:LexF y m):LexF (x++y) (l++m):=by
 intro pre post
 obtain ⟨ts,h1,h2⟩:=h pre (y++post)
 obtain ⟨us,h3,h4⟩:=k (pre++x) post
 refine ⟨ts++us,by simp [h1,h3],?_⟩
 rw [List.append_assoc] at h4 ⊢
 rw [List.length_append] at h4 ⊢
 rw [←Nat.add_assoc]
 exact h2.app h4
theorem LexF.apps {x y:Str} {l m:List K} (h:LexF x l) (k:LexS y m):LexS (x++y) (l++m):=by
 intro pre post hp
 obtain ⟨ts,h1,h2⟩:=h pre (y++post)
 obtain ⟨us,h3,h4⟩:=k (pre++x) post hp
 refine ⟨ts++us,by simp [h1,h3],?_⟩
 rw [List.append_assoc] at h4 ⊢
 rw [List.length_append] at h4 ⊢
 rw [←Nat.add_assoc]
 exact h2.app h4
theorem LexS.appf {x y:Str} {l m:List K} (h:LexS x l) (k:LexF y m) (hs:∀ post,Sep (y++post)):LexF (x++y) (l++m):=by
 intro pre post
 obtain ⟨ts,h1,h2⟩:=h pre (y++post) (hs post)
 obtain ⟨us,h3,h4⟩:=k (pre++x) post
 refine ⟨ts++us,by simp [h1,h3],?_⟩
 rw [List.append_assoc] at h4 ⊢
 rw [List.length_append] at h4 ⊢
 rw [←Nat.add_assoc]
 exact h2.app h4
theorem LexF.nil:LexF [] []:=fun pre post=>⟨[],rfl,.nil _⟩
theorem sep_of {c:UInt8} {x:Str} (h:c∈seps):∀ post,Sep (c::x++post):=fun post d hd=>by cases hd;exact h
theorem drop_pre {pre x:Str}:(pre++x).drop pre.length=x:=List.drop_left
theorem Tz.one {s:Str} {a a':Nat} {c:UInt8} {t:Tok} (hc:s[a]?=some c) (hb:isBlank c=false) (hr:begins s a [47,42]=false) (ht:tokAt s a c=(t,a')) (hk:t.kind=1∨t.kind=2∨t.kind=3) (hn:t.n≤2147483647) (ha:a < a'):Tz s a [t] a' :=
 .tok hc hb hr ht hk hn ha (.nil _)
theorem lex_blank {c:UInt8} (h:isBlank c=true):LexF [c] []:=by
 intro pre post
 have hd:(pre++([c]++post)).drop pre.length=c::post:=drop_pre
 obtain ⟨h1,_,_⟩:=at_drop hd
 exact ⟨[],rfl,.blank h1 h (.nil _)⟩
theorem lex_free {c:UInt8} (hm:c∈[40,41,91,93,44,59,123,125]):LexF [c] [kS [c]]:=by
 intro pre post
 have hd:(pre++([c]++post)).drop pre.length=c::post:=drop_pre
 obtain ⟨h1,_,h4⟩:=at_drop hd
 obtain ⟨h2,h3,h5⟩:=free_tok (Nat.le_of_lt h4) hd hm
 exact ⟨[_],rfl,Tz.one h1 h3 h5 h2 (by simp) (by simp) (by simp)⟩
theorem lex_sign {w:Str} (hm:w∈signs):LexS w [kS w]:=by
 intro pre post hp
 have hd:(pre++(w++post)).drop pre.length=w++post:=drop_pre
 have hne:w≠[]:=by rintro rfl;revert hm;decide
 obtain ⟨c,r,hw⟩:=List.exists_cons_of_ne_nil hne
 have hd2:=hd
 rw [hw,List.cons_append] at hd2
 obtain ⟨h1,_,h4⟩:=at_drop hd2
 rw [←List.cons_append,←hw] at h1 h4
 obtain ⟨h2,h3,h5⟩:=sign_tok (Nat.le_of_lt h4) hd hw hm hp
 have:0 < w.length:=by rw [hw];simp
 exact ⟨[_],rfl,Tz.one h1 h3 h5 h2 (by simp) (by simp) (by omega)⟩
theorem small_facts {c:UInt8} (h:small c=true):isBlank c=false∧c≠47:=by
 simp only [small,Bool.and_eq_true] at h
 have h1:=of_decide_eq_true h.1
 refine ⟨?_,fun h0=>?_⟩
 ·simp only [isBlank,Bool.or_eq_false_iff,beq_eq_false_iff_ne];omega
 ·subst h0;revert h1;decide
theorem no_remark {s r:Str} {a:Nat} {c:UInt8} (h:s.drop a=c::r) (hc:c≠47):begins s a [47,42]=false:=by
 obtain ⟨_,_,h4⟩:=at_drop h
 rw [begins_drop h (Nat.le_of_lt h4)]
 simp only [List.isPrefixOf]
 have:((47:UInt8)==c)=false:=by rw [beq_eq_false_iff_ne];exact fun h=>hc h.symm
 rw [this,Bool.false_and]
theorem lex_word {w:Str} (hw:word w=true):LexS w [if words.contains w then kS w else kN w]:=by
 intro pre post hp
 have hd:(pre++(w++post)).drop pre.length=w++post:=drop_pre
 simp only [word,Bool.and_eq_true,List.all_eq_true] at hw
 match w,hw,hd with
 | [],hw,_=>simp at hw
 | c::r,hw,hd =>
  obtain ⟨hall,hs⟩:=hw
  have hd2:=hd
  rw [List.cons_append] at hd2
  obtain ⟨h1,_,h4⟩:=at_drop hd2
  obtain ⟨h3,h5⟩:=small_facts hs
  have ht:=word_tok (Nat.le_of_lt h4) hd rfl hs hall hp.namb
  refine ⟨[_],?_,Tz.one h1 h3 (no_remark hd2 h5) ht ?_ (by simp) (by simp)⟩
  ·simp only [List.map_cons,List.map_nil,kf,kS,kN]
   split <;> rfl
  ·simp only;split <;> simp
theorem lex_name {w:Str} (hw:nameOk w=true):LexS w [kN w]:=by
 simp only [nameOk,Bool.and_eq_true,Bool.not_eq_true'] at hw
 have:=lex_word hw.1.1
 rw [if_neg (by rw [hw.2];decide)] at this;exact this
theorem lex_kw {w:Str} (hw:w∈words):LexS w [kS w]:=by
 have h1:∀ w∈words,word w=true:=by decide
 have:=lex_word (h1 w hw)
 rw [if_pos (by simpa using hw)] at this;exact this
theorem lex_num {n:Nat} (hn:n≤2147483647):LexS (digs n) [kI n]:=by
 intro pre post hp
 have hd:(pre++(digs n++post)).drop pre.length=digs n++post:=drop_pre
 obtain ⟨h1,h2,h3⟩:=digs_ok n
 obtain ⟨c,r,hw⟩:=List.exists_cons_of_ne_nil h3
 have hd2:=hd
 rw [hw,List.cons_append] at hd2
 obtain ⟨h4,_,h5⟩:=at_drop hd2
 rw [←List.cons_append,←hw] at h4 h5
 have hc:dig c=true:=h1 c (by rw [hw];exact List.mem_cons_self)
 have hcf:isBlank c=false∧c≠47:=by
  simp only [dig,Bool.and_eq_true] at hc
  have h1:=of_decide_eq_true hc.1
  refine ⟨?_,fun h0=>?_⟩
  ·simp only [isBlank,Bool.or_eq_false_iff,beq_eq_false_iff_ne];omega
  ·subst h0;revert h1;decide
 have ht:=num_tok (Nat.le_of_lt h5) hd hw hn hp.dig
 have:0 < (digs n).length:=by rw [hw];simp
 refine ⟨[_],rfl,Tz.one h4 hcf.1 ?_ ht (by simp) (by simpa using by omega) (by omega)⟩
 have hd3:=hd2
 rw [←List.cons_append,←hw] at hd3
 rw [hw] at hd3 ⊢
 exact no_remark hd3 hcf.2
theorem lex_op {s:Str} (h:anySign s=true):s∈signs:=by
 have hm:s∈levels.flatten:=by
  unfold anySign at h
  rw [List.any_eq_true] at h
  obtain ⟨l,hl,hc⟩:=h
  exact List.mem_flatten.2 ⟨l,hl,by simpa using hc⟩
 have key:∀ s∈levels.flatten,s∈signs:=by decide
 exact key s hm
theorem sp32:LexF [32] []:=lex_blank (by decide)
theorem LexS.then {x:Str} {l:List K} (h:LexS x l) {c:UInt8} (hm:c∈[40,41,91,93,44,59,123,125]):LexF (x++[c]) (l++[kS [c]]) :=
 h.appf (lex_free hm) (sep_of (by revert hm;unfold seps;simp only [List.mem_cons,List.not_mem_nil,or_false];rintro (h | h | h | h | h | h | h | h) <;> simp [h]))
theorem LexS.sp {x:Str} {l:List K} (h:LexS x l):LexF (x++[32]) l:=by
 have:=h.appf sp32 (sep_of (by decide))
 rw [List.append_nil] at this;exact this
theorem LexS.eq {x:Str} {l l':List K} (h:LexS x l) (e:l=l'):LexS x l':=e ▸ h
theorem LexF.eq {x:Str} {l l':List K} (h:LexF x l) (e:l=l'):LexF x l':=e ▸ h
theorem lex_brt {lv k:Nat} {x:Str} {l:List K} (h:LexS x l):LexS (brt lv k x) (brk lv k l):=by
 unfold brt brk
 split
 ·have:=((lex_free (c:=40) (by decide)).apps h).then (c:=41) (by decide)
  exact this.s.eq (by simp)
 ·exact h
mutual
theorem lexE:∀ a:E,a.ok=true→LexS a.txt a.tk
 | .num n,h=>by
  simp only [E.ok,Bool.and_eq_true] at h
  have h1:=of_decide_eq_true h.1
  have h2:=of_decide_eq_true h.2
  have:=lex_num (n:=n.toNat) (by omega)
  rw [E.txt,E.tk]
  rw [Int.toNat_of_nonneg h1] at this;exact this
 | .name s,h=>by rw [E.txt,E.tk];exact lex_name h
 | .at_ s a,h=>by
  simp only [E.ok,Bool.and_eq_true] at h
  rw [E.txt,E.tk]
  exact ((((lex_name h.1).then (c:=91) (by decide)).apps (lexE a h.2)).then (c:=93) (by decide)).s.eq (by simp)
 | .call s l,h=>by
  simp only [E.ok,Bool.and_eq_true] at h
  rw [E.txt,E.tk]
  exact ((((lex_name h.1).then (c:=40) (by decide)).apps (lexEs l h.2)).then (c:=41) (by decide)).s.eq (by simp)
 | .un s a,h=>by
  simp only [E.ok,Bool.and_eq_true,Bool.or_eq_true,beq_iff_eq] at h
  rw [E.txt,E.tk]
  have hs:s∈signs:=by rcases h.1 with (h | h) | h <;> (rw [h];decide)
  exact ((lex_sign hs).sp.apps (lex_brt (lexE a h.2))).eq (by simp)
 | .bin s a b,h=>by
  simp only [E.ok,Bool.and_eq_true] at h
  rw [E.txt,E.tk]
  exact ((((lex_brt (lexE a h.1.2)).sp.apps (lex_sign (lex_op h.1.1))).sp).apps (lex_brt (lexE b h.2))).eq (by simp)
theorem lexEs:∀ l:List E,E.oks l=true→LexS (joinC (E.txts l)) (E.tks l)
 | [],_=>LexF.nil.s
 | a::l,h=>by
  simp only [E.oks,Bool.and_eq_true] at h
  rw [E.txts,E.tks,joinC]
  exact lexCs l h.2 _ _ (lexE a h.1)
theorem lexCs:∀ l:List E,E.oks l=true→∀ x m,LexS x m→LexS (x++(E.txts l).flatMap fun y=>44::32::y) (m++E.tksC l)
 | [],_,x,m,hx=>by rw [E.txts,E.tksC];simpa using hx
 | a::l,h,x,m,hx=>by
  simp only [E.oks,Bool.and_eq_true] at h
  have h1:=((hx.then (c:=44) (by decide)).app sp32).apps (lexE a h.1)
  have h2:=lexCs l h.2 _ _ h1
  rw [E.txts,E.tksC,List.flatMap_cons]
  have e1:x++((44::32::a.txt)++(E.txts l).flatMap fun y=>44::32::y)=(x++[44]++[32]++a.txt)++(E.txts l).flatMap fun y=>44::32::y:=by simp
  rw [e1]
  exact h2.eq (by simp)
end
theorem LexS.set {x:Str} {l:List K} (h:LexS x l):LexF (x++[32,61,32]) (l++[kS [61]]):=by
 have:=(h.sp.apps (lex_sign (w:=[61]) (by decide))).sp
 simpa using this
theorem kw_sp {w:Str} (hw:w∈words):LexF (w++[32]) [kS w]:=(lex_kw hw).sp
mutual
theorem lexSt:∀ s:S,s.ok=true→LexF (s.txt E.txt) s.tk
 | .set s a,h=>by
  simp only [S.ok,Bool.and_eq_true] at h
  rw [S.txt,S.tk]
  exact (((lex_name h.1).set.apps (lexE a h.2)).then (c:=59) (by decide)).eq (by simp)
 | .put s a b,h=>by
  simp only [S.ok,Bool.and_eq_true] at h
  rw [S.txt,S.tk]
  have h1:=((((lex_name h.1).then (c:=91) (by decide)).apps (lexE a h.2.1)).then (c:=93) (by decide)).s.set
  have h2:=(h1.apps (lexE b h.2.2)).then (c:=59) (by decide)
  have e:s++[91]++a.txt++[93,32,61,32]++b.txt++[59]=s++[91]++a.txt++[93]++[32,61,32]++b.txt++[59]:=by simp
  rw [e]
  exact h2.eq (by simp)
 | .if1 c b,h=>by
  simp only [S.ok,Bool.and_eq_true] at h
  rw [S.txt,S.tk]
  have h1:=((((kw_sp (w:=[105,102]) (by decide)).app (lex_free (c:=40) (by decide))).apps (lexE c h.1)).then (c:=41) (by decide)).s.sp
  have h2:=h1.app (lexB b h.2)
  have e:[105,102,32,40]++c.txt++[41,32]++(S.txts E.txt [123,32] b++[125])=[105,102]++[32]++[40]++c.txt++[41]++[32]++(S.txts E.txt [123,32] b++[125]):=by simp
  rw [e]
  exact h2.eq (by simp [kwIf])
 | .if2 c b b2,h=>by
  simp only [S.ok,Bool.and_eq_true] at h
  rw [S.txt,S.tk]
  have h1:=((((kw_sp (w:=[105,102]) (by decide)).app (lex_free (c:=40) (by decide))).apps (lexE c h.1)).then (c:=41) (by decide)).s.sp
  have h2:=h1.app (lexB b h.2.1)
  have h3:=((h2.s.sp.apps (lex_kw (w:=[101,108,115,101]) (by decide))).sp).app (lexB b2 h.2.2)
  have e:[105,102,32,40]++c.txt++[41,32]++(S.txts E.txt [123,32] b++[125])++[32,101,108,115,101,32]++(S.txts E.txt [123,32] b2++[125])=[105,102]++[32]++[40]++c.txt++[41]++[32]++(S.txts E.txt [123,32] b++[125])++[32]++[101,108,115,101]++[32]++(S.txts E.txt [123,32] b2++[125]):=by simp
  rw [e]
  exact h3.eq (by simp [kwIf,kwElse])
 | .while_ c b,h=>by
  simp only [S.ok,Bool.and_eq_true] at h
  rw [S.txt,S.tk]
  have h1:=((((kw_sp (w:=[119,104,105,108,101]) (by decide)).app (lex_free (c:=40) (by decide))).apps (lexE c h.1)).then (c:=41) (by decide)).s.sp
  have h2:=h1.app (lexB b h.2)
  have e:[119,104,105,108,101,32,40]++c.txt++[41,32]++(S.txts E.txt [123,32] b++[125])=[119,104,105,108,101]++[32]++[40]++c.txt++[41]++[32]++(S.txts E.txt [123,32] b++[125]):=by simp
  rw [e]
  exact h2.eq (by simp [kwWhile])
 | .ret a,h=>by
  simp only [S.ok] at h
  rw [S.txt,S.tk]
  have h1:=((kw_sp (w:=[114,101,116,117,114,110]) (by decide)).apps (lexE a h)).then (c:=59) (by decide)
  exact h1.eq (by simp [kwReturn])
 | .do_ a,h=>by
  simp only [S.ok] at h
  rw [S.txt,S.tk]
  exact (lexE a h).then (c:=59) (by decide)
 | .var s a,h=>by
  simp only [S.ok,Bool.and_eq_true] at h
  rw [S.txt,S.tk]
  have h1:=((((kw_sp (w:=[118,97,114]) (by decide)).apps (lex_name h.1)).set).apps (lexE a h.2)).then (c:=59) (by decide)
  exact h1.eq (by simp [kwVar])
theorem lexB:∀ l:List S,S.oks l=true→LexF (S.txts E.txt [123,32] l++[125]) (kS [123]::(S.tks l++[kS [125]]))
 | l,h=>by
  have h0:LexF [123,32] [kS [123]]:=by
   have:=(lex_free (c:=123) (by decide)).s.sp
   simpa using this
  exact ((lexSs l h _ _ h0).s.then (c:=125) (by decide)).eq (by simp)
theorem lexSs:∀ l:List S,S.oks l=true→∀ acc m,LexF acc m→LexF (S.txts E.txt acc l) (m++S.tks l)
 | [],_,acc,m,h=>by rw [S.txts,S.tks,List.append_nil];exact h
 | a::l,ho,acc,m,h=>by
  simp only [S.oks,Bool.and_eq_true] at ho
  rw [S.txts,S.tks]
  have h1:=(h.app (lexSt a ho.1)).s.sp
  exact (lexSs l ho.2 _ _ h1).eq (by simp)
end
theorem LexF.all {x:Str} {l:List K} (h:LexF x l):∃ ts,ts.map kf=l∧Tz x 0 ts x.length:=by
 obtain ⟨ts,h1,h2⟩:=h [] []
 exact ⟨ts,h1,by simpa using h2⟩
theorem lex_blk {l:List S} (h:S.oks l=true):LexF (blkTxt E.txt l) (blkTk l):=lexB l h
end Go.Sp
namespace Go.Im
open Go.Xp Go.Sp
def gTk (s:Str):List K:=[kS kwInt,kN s,kS [59]]
def aTk (a:Ar):List K:=[kS kwInt,kN a.name,kS [91],kI a.size,kS [93],kS [59]]
def pTkC:List Str→List K
 | []=>[]
 | s::r=>kS [44]::kN s::pTkC r
def pTk:List Str→List K
 | []=>[]
 | s::r=>kN s::pTkC r
def fTk (x:Fn × List S):List K:=kS kwFunc::kN x.1.name::kS [40]::(pTk x.1.params++kS [41]::blkTk x.2)
def f2 (x:Fn × List S):Str:=((((([102,117,110,99,32]++x.1.name)++[40])++joinC x.1.params)++[41,32])++blkTxt E.txt x.2)++[10]
theorem lex_end:LexF [59,10] [kS [59]]:=(lex_free (c:=59) (by decide)).app (lex_blank (c:=10) (by decide))
theorem lex_g {s:Str} (h:nameOk s=true):LexF (g1 s) (gTk s) :=
 ((kw_sp (w:=kwInt) (by decide)).apps (lex_name h)).appf lex_end (sep_of (c:=59) (x:=[10]) (by decide))
theorem lex_a {a:Ar} (h:arOk a=true):LexF (a1 a) (aTk a):=by
 unfold arOk at h
 simp only [Bool.and_eq_true,Bool.not_eq_true',decide_eq_false_iff_not] at h
 obtain ⟨⟨h1,h2⟩,h3⟩:=h
 have hz:itoaI a.size=digs a.size.toNat:=by unfold itoaI;rw [if_neg h2]
 have hk:kI a.size=kI ((a.size.toNat:Nat):Int):=by rw [Int.toNat_of_nonneg (by omega)]
 have x1:=((kw_sp (w:=kwInt) (by decide)).apps (lex_name h1)).then (c:=91) (by decide)
 have x2:=x1.apps (lex_num (n:=a.size.toNat) (by omega))
 have x3:=x2.appf ((lex_free (c:=93) (by decide)).app lex_end) (sep_of (c:=93) (x:=[59,10]) (by decide))
 unfold a1 aTk
 rw [hz,hk]
 exact x3
theorem lex_ps:∀ (ps:List Str),namesOk ps=true→∀ x m,LexS x m→LexS (x++ps.flatMap fun y=>44::32::y) (m++pTkC ps)
 | [],_,x,m,h=>by rw [List.flatMap_nil,List.append_nil,pTkC,List.append_nil];exact h
 | s::r,hp,x,m,h=>by
  unfold namesOk at hp
  rw [List.all_cons,Bool.and_eq_true] at hp
  have h1:=(h.then (c:=44) (by decide)).app sp32
  have h2:=h1.apps (lex_name hp.1)
  have h3:=lex_ps r hp.2 _ _ h2
  rw [List.flatMap_cons,pTkC]
  refine LexS.eq (cast (congrArg (fun z=>LexS z _) ?_) h3) ?_
  ·simp
  ·simp
theorem lex_p {ps:List Str} (h:namesOk ps=true):LexS (joinC ps) (pTk ps):=by
 match ps,h with
 | [],_=>exact LexF.nil.s
 | s::r,h =>
  unfold namesOk at h
  rw [List.all_cons,Bool.and_eq_true] at h
  exact lex_ps r h.2 s [kN s] (lex_name h.1)
theorem lex_f {x:Fn × List S} (h1:nameOk x.1.name=true) (h2:namesOk x.1.params=true) (h3:S.oks x.2=true):LexF (f2 x) (fTk x):=by
 have x1:=((kw_sp (w:=kwFunc) (by decide)).apps (lex_name h1)).then (c:=40) (by decide)
 have x2:=(x1.apps (lex_p h2)).appf ((lex_free (c:=41) (by decide)).app sp32) (sep_of (c:=41) (x:=[32]) (by decide))
 have x3:=(x2.app (lex_blk h3)).app (lex_blank (c:=10) (by decide))
 refine LexF.eq x3 ?_
 simp [fTk]
theorem lex_cat {α:Type} {f:α→Str} {k:α→List K}:∀ (l:List α),(∀ x∈l,LexF (f x) (k x))→∀ acc m,LexF acc m→LexF (catF f acc l) (m++l.flatMap k)
 | [],_,acc,m,h=>by rw [catF,List.flatMap_nil,List.append_nil];exact h
 | x::l,hl,acc,m,h=>by
  rw [catF,List.flatMap_cons,←List.append_assoc]
  exact lex_cat l (fun y hy=>hl y (List.mem_cons_of_mem _ hy)) _ _ (h.app (hl x List.mem_cons_self))
theorem cat_f2 {inl:List Str→Nat→Str}:∀ (fns:List Fn) (l:List T) (ls:List (List S)) (acc:Str),ls.length=l.length→(∀ (i:Nat) t b,l[i]?=some t→ls[i]?=some b→blT tiT inl 0 t=blkTxt E.txt b) →
  catF (f1 tiT inl) acc (fns.zip l)=catF f2 acc (fns.zip ls)
 | [],l,ls,acc,_,_=>by simp [catF]
 | f::r,[],[],acc,_,_=>by simp [catF]
 | f::r,t::l,b::ls,acc,hl,h=>by
  have h0:=h 0 t b rfl rfl
  rw [List.zip_cons_cons,List.zip_cons_cons,catF,catF,cat_f2 r l ls _ (by simpa using hl) fun i t' b' h1 h2=>h (i+1) t' b' (by simpa using h1) (by simpa using h2)]
  simp only [f1,f2,h0]
 | f::r,[],b::ls,acc,hl,_=>by simp at hl
 | f::r,t::l,[],acc,hl,_=>by simp at hl
section
variable {p q:RS} {ts r rest:List Tok} {u:Tok} {s:Str}
theorem tok_c (h:On p (u::r)):tok p 0=u:=by rw [On.tok h];rfl
theorem is_c (h:On p (u::r)) (hk:kf u=kS s):is p 0 s=true:=by
 obtain ⟨h1,h2⟩:=kf_s hk
 unfold is;rw [tok_c h,h1,h2];simp
theorem is_n (h:On p (u::r)) {k:K} (hk:kf u=k) (hn:k.1=3→k.2.2≠s):is p 0 s=false:=by
 unfold is
 rw [tok_c h]
 subst hk
 by_cases h3:u.kind=3
 ·have:=hn h3
  simp only [kf] at this
  simp [h3,this]
 ·simp [h3]
theorem want_c (h:On p (u::r)) (hk:kf u=kS s):want p s=p.next:=by unfold want;rw [if_pos h.code,if_pos (is_c h hk)]
theorem name_c (h:On p (u::r)) (hk:kf u=kN s) (hl:nameOk s=true):nameS p=p.next:=by
 obtain ⟨h1,h2⟩:=kf_n hk
 have:=nameOk_len hl
 unfold nameS
 rw [if_pos h.code,tok_c h,if_pos h1,if_neg (by rw [h2];omega)]
theorem nx (h:On p (u::r)):On p.next r:=h.next.1
theorem aft_n (h:On p (u::r)):p.next.l=p.l∧p.next.e=p.e:=⟨h.next.2.1,h.next.2.2⟩
theorem lt_c (h:On p (u::r)):p.i < p.l.length:=by
 have:=congrArg List.length h.rest
 rw [List.length_drop,List.length_cons] at this
 omega
theorem lt_n (h:On p []):¬ p.i < p.l.length:=by
 have:=congrArg List.length h.rest
 rw [List.length_drop,List.length_nil] at this
 omega
theorem iPs_err {G f:Nat} {st:PS} (h:p.code≠0) (hg:1≤G):iPs G f p st=some (p,st):=by
 obtain ⟨G,rfl⟩:∃ g',G=g'+1:=⟨G - 1,by omega⟩
 rw [iPs,if_neg (fun hc=>h hc.1)]
theorem iPm_err {f:Nat} {acc:List Str} (h:p.code≠0) (hg:1≤f):iPm f acc p=some (acc,p):=by
 obtain ⟨f,rfl⟩:∃ g',f=g'+1:=⟨f - 1,by omega⟩
 rw [iPm,if_neg (fun hc=>h hc.1),want_err h]
end
theorem iW_g {f:Nat} {p:RS} {st:PS} {ts rest:List Tok} {s:Str} (hp:On p (ts++rest)) (ht:ts.map kf=gTk s) (hs:nameOk s=true) :
  ∃ q,iW f p st=some (q,{ st with globals:=st.globals++[s] })∧Aft p q (.ok rest):=by
 obtain ⟨u,r,rfl,h1,ht⟩:=map_cons ht
 obtain ⟨v,r,rfl,h2,ht⟩:=map_cons ht
 obtain ⟨w,rfl,h3⟩:=map_one ht
 simp only [List.cons_append,List.nil_append] at hp
 have p1:=nx hp
 have p2:=nx p1
 have p3:=nx p2
 refine ⟨p.next.next.next,?_,p3,by rw [(aft_n p2).1,(aft_n p1).1,(aft_n hp).1],by rw [(aft_n p2).2,(aft_n p1).2,(aft_n hp).2]⟩
 unfold iW
 rw [if_pos (is_c hp h1),name_c p1 h2 hs,is_n p2 h3 (by decide),if_neg (by rintro ⟨_,h⟩;cases h),want_c p2 h3,tok_c p1,(kf_n h2).2]
theorem iW_a {f:Nat} {p:RS} {st:PS} {ts rest:List Tok} {a:Ar} (hp:On p (ts++rest)) (ht:ts.map kf=aTk a) (hs:nameOk a.name=true) :
  ∃ q,iW f p st=some (q,{ st with arrays:=st.arrays++[a] })∧Aft p q (.ok rest):=by
 obtain ⟨u,r,rfl,h1,ht⟩:=map_cons ht
 obtain ⟨v,r,rfl,h2,ht⟩:=map_cons ht
 obtain ⟨w,r,rfl,h3,ht⟩:=map_cons ht
 obtain ⟨x,r,rfl,h4,ht⟩:=map_cons ht
 obtain ⟨y,r,rfl,h5,ht⟩:=map_cons ht
 obtain ⟨z,rfl,h6⟩:=map_one ht
 simp only [List.cons_append,List.nil_append] at hp
 have p1:=nx hp
 have p2:=nx p1
 have p3:=nx p2
 have p4:=nx p3
 have p5:=nx p4
 have p6:=nx p5
 refine ⟨p.next.next.next.next.next.next,?_,p6,by rw [(aft_n p5).1,(aft_n p4).1,(aft_n p3).1,(aft_n p2).1,(aft_n p1).1,(aft_n hp).1],by rw [(aft_n p5).2,(aft_n p4).2,(aft_n p3).2,(aft_n p2).2,(aft_n p1).2,(aft_n hp).2]⟩
 unfold iW
 rw [if_pos (is_c hp h1),name_c p1 h2 hs,if_pos ⟨p2.code,is_c p2 h3⟩,tok_c p3,if_pos (kf_i h4).1,want_c p4 h5,want_c p5 h6,tok_c p1,(kf_n h2).2,(kf_i h4).2]
theorem iPm_c {rest:List Tok} {u:Tok} (hu:kf u=kS [41]):∀ (ps:List Str) (f:Nat) (acc:List Str) (p:RS) (ts:List Tok),ps.length < f→acc≠[]→namesOk ps=true→On p (ts++u::rest)→ts.map kf=pTkC ps →
  ∃ q,iPm f acc p=some (acc++ps,q)∧Aft p q (.ok rest)
 | [],f,acc,p,ts,hf,ha,_,hp,ht=>by
  obtain ⟨f,rfl⟩:∃ g',f=g'+1:=⟨f - 1,by omega⟩
  have:ts=[]:=by simpa [pTkC] using ht
  subst this
  rw [List.nil_append] at hp
  refine ⟨p.next,?_,nx hp,aft_n hp⟩
  rw [iPm,if_neg (by rw [is_c hp hu];rintro ⟨_,h⟩;cases h),want_c hp hu,List.append_nil]
 | s::ps,f,acc,p,ts,hf,ha,hn,hp,ht=>by
  obtain ⟨f,rfl⟩:∃ g',f=g'+1:=⟨f - 1,by omega⟩
  rw [pTkC] at ht
  obtain ⟨v,r,rfl,h1,ht⟩:=map_cons ht
  obtain ⟨w,r,rfl,h2,ht⟩:=map_cons ht
  unfold namesOk at hn
  rw [List.all_cons,Bool.and_eq_true] at hn
  simp only [List.cons_append] at hp
  have p1:=nx hp
  have p2:=nx p1
  have hal:acc.length≠0:=fun h=>ha (List.eq_nil_of_length_eq_zero h)
  rw [List.length_cons] at hf
  obtain ⟨q,h3,h4⟩:=iPm_c hu ps f (acc++[s]) p.next.next r (by omega) (by simp) hn.2 p2 ht
  refine ⟨q,?_,h4.1,by rw [h4.2.1,(aft_n p1).1,(aft_n hp).1],by rw [h4.2.2,(aft_n p1).2,(aft_n hp).2]⟩
  rw [iPm,if_pos ⟨hp.code,is_n hp h1 (by decide)⟩,if_neg hal,want_c hp h1,tok_c p1,(kf_n h2).2,name_c p1 h2 hn.1,h3]
  simp
theorem iPm_p {rest:List Tok} {u:Tok} (hu:kf u=kS [41]) (ps:List Str) (f:Nat) (p:RS) (ts:List Tok) (hf:ps.length < f) (hn:namesOk ps=true) (hp:On p (ts++u::rest)) (ht:ts.map kf=pTk ps) :
  ∃ q,iPm f [] p=some (ps,q)∧Aft p q (.ok rest):=by
 obtain ⟨f,rfl⟩:∃ g',f=g'+1:=⟨f - 1,by omega⟩
 match ps,hn,ht,hf with
 | [],_,ht,_ =>
  have:ts=[]:=by simpa [pTk] using ht
  subst this
  rw [List.nil_append] at hp
  refine ⟨p.next,?_,nx hp,aft_n hp⟩
  rw [iPm,if_neg (by rw [is_c hp hu];rintro ⟨_,h⟩;cases h),want_c hp hu]
 | s::ps,hn,ht,hf =>
  rw [pTk] at ht
  obtain ⟨w,r,rfl,h2,ht⟩:=map_cons ht
  unfold namesOk at hn
  rw [List.all_cons,Bool.and_eq_true] at hn
  simp only [List.cons_append] at hp
  have p2:=nx hp
  rw [List.length_cons] at hf
  obtain ⟨q,h3,h4⟩:=iPm_c hu ps f ([]++[s]) p.next r (by omega) (by simp) hn.2 p2 ht
  refine ⟨q,?_,h4.1,by rw [h4.2.1,(aft_n hp).1],by rw [h4.2.2,(aft_n hp).2]⟩
  rw [iPm,if_pos ⟨hp.code,is_n hp h2 (fun h=>by cases h)⟩,if_pos (by rfl),tok_c hp,(kf_n h2).2,name_c hp h2 hn.1,h3]
  rfl
def fW (p:RS):Nat:=40 * p.l.length+100
theorem pTkC_len:∀ ps:List Str,ps.length≤(pTkC ps).length
 | []=>Nat.zero_le _
 | s::r=>by have:=pTkC_len r;rw [pTkC,List.length_cons,List.length_cons,List.length_cons];omega
theorem pTk_len (ps:List Str):ps.length≤(pTk ps).length:=by
 cases ps with
 | nil=>exact Nat.zero_le _
 | cons s r=>have:=pTkC_len r;rw [pTk,List.length_cons,List.length_cons];omega
theorem On.len {p:RS} {ts:List Tok} (h:Go.Sp.On p ts):ts.length≤p.l.length:=by
 rw [←h.rest,List.length_drop];omega
theorem iBlk {f:Nat} {q:RS} {ts:List Tok} (hq:Go.Sp.On q ts) (hs:Srt q.l) (hf:fW q≤f):∃ t q',iS f (.block 1) q=some (t,q')∧Res q q' t (block q.e 1 ts):=by
 obtain ⟨t,q',h1,h2⟩:=(is_ (fuelOf ts)).block 1 ts q hq hs block_fuel
 have:=On.len hq
 exact ⟨t,q',h1 f (by unfold KI fuelOf;unfold fW at hf;omega),h2⟩
theorem iW_f {f:Nat} {p:RS} {st:PS} {ts rest:List Tok} {x:Fn × List S} (hp:On p (ts++rest)) (hs:Srt p.l) (hf:fW p≤f) (ht:ts.map kf=fTk x) (h1:nameOk x.1.name=true) (h2:namesOk x.1.params=true) (h3:S.oks x.2=true) :
  (blkFit x.2 1=true→∃ q t,iW f p st=some (q,{ st with trees:=st.trees++[t],fns:=st.fns++[(x.1.name,x.1.params)] })∧er t=blkTree x.2∧Aft p q (.ok rest)) ∧
  (blkFit x.2 1=false→∃ q st',iW f p st=some (q,st')∧q.code≠0):=by
 obtain ⟨u,r,rfl,k1,ht⟩:=map_cons ht
 obtain ⟨v,r,rfl,k2,ht⟩:=map_cons ht
 obtain ⟨w,r,rfl,k3,ht⟩:=map_cons ht
 obtain ⟨A,r,rfl,k4,ht⟩:=map_app ht
 obtain ⟨y,r,rfl,k5,ht⟩:=map_cons ht
 simp only [List.cons_append,List.append_assoc] at hp
 have p1:=nx hp
 have p2:=nx p1
 have p3:=nx p2
 have hl:p.next.next.next.l=p.l:=by rw [(aft_n p2).1,(aft_n p1).1,(aft_n hp).1]
 have hA:x.1.params.length≤A.length:=by have:=pTk_len x.1.params;rw [←k4,List.length_map] at this;exact this
 have hpl:=On.len p3
 simp only [List.length_append] at hpl
 rw [hl] at hpl
 have hfx:x.1.params.length < f:=by unfold fW at hf;omega
 obtain ⟨q,h4,h5⟩:=iPm_p k5 x.1.params f p.next.next.next A hfx h2 p3 k4
 have hql:q.l=p.l:=h5.2.1.trans hl
 obtain ⟨t,q',h6,h7⟩:=iBlk (f:=f) h5.1 (by rw [hql];exact hs) (by unfold fW at hf ⊢;rw [hql];exact hf)
 obtain ⟨r1,r2⟩:=block_rt (e:=q.e) (d:=1) (rest:=rest) h3 ht
 have hw:iW f p st=some (q',{ st with trees:=st.trees++[t],fns:=st.fns++[(x.1.name,x.1.params)] }):=by
  unfold iW
  rw [if_neg (by rw [is_n hp k1 (by decide)];decide),if_pos (is_c hp k1),name_c p1 k2 h1,want_c p2 k3,h4]
  simp only
  rw [if_pos h5.1.code,h6,tok_c p1,(kf_n k2).2]
 refine ⟨fun hfit=>?_,fun hfit=>?_⟩
 ·obtain ⟨t',j1,j2⟩:=r1 hfit
  rw [j2] at h7
  obtain ⟨rfl,j3⟩:=h7
  exact ⟨q',t,hw,j1,j3.1,j3.2.1.trans hql,j3.2.2.trans (h5.2.2.trans (by rw [(aft_n p2).2,(aft_n p1).2,(aft_n hp).2]))⟩
 ·obtain ⟨pos,j2⟩:=r2 hfit
  rw [j2] at h7
  exact ⟨q',_,hw,Aft.err h7⟩
theorem iPs_step {G f:Nat} {p q:RS} {st st':PS} {u:Tok} {r:List Tok} (hp:On p (u::r)) (h:iW f p st=some (q,st')):iPs (G+1) f p st=iPs G f q st':=by
 rw [iPs,if_pos ⟨hp.code,lt_c hp⟩,h]
theorem iPs_g {f:Nat} {rest:List Tok}:∀ (gs:List Str) (p:RS) (st:PS) (ts:List Tok),On p (ts++rest)→ts.map kf=gs.flatMap gTk→namesOk gs=true →
  ∃ q,Aft p q (.ok rest)∧∀ G,iPs (G+gs.length) f p st=iPs G f q { st with globals:=st.globals++gs }
 | [],p,st,ts,hp,ht,_=>by
  have:ts=[]:=by simpa using ht
  subst this
  exact ⟨p,On.self hp,fun G=>by simp⟩
 | s::gs,p,st,ts,hp,ht,hn=>by
  rw [List.flatMap_cons] at ht
  obtain ⟨A,B,rfl,h1,h2⟩:=map_app ht
  unfold namesOk at hn
  rw [List.all_cons,Bool.and_eq_true] at hn
  rw [List.append_assoc] at hp
  obtain ⟨q,h3,h4⟩:=iW_g (f:=f) (st:=st) hp h1 hn.1
  obtain ⟨q',h5,h6⟩:=iPs_g gs q { st with globals:=st.globals++[s] } B h4.1 h2 hn.2
  refine ⟨q',h4.tr h5,fun G=>?_⟩
  obtain ⟨u,r,rfl,_,_⟩:=map_cons h1
  rw [List.length_cons,←Nat.add_assoc,iPs_step hp h3,h6]
  simp
theorem iPs_a {f:Nat} {rest:List Tok}:∀ (as:List Ar) (p:RS) (st:PS) (ts:List Tok),On p (ts++rest)→ts.map kf=as.flatMap aTk→as.all arOk=true →
  ∃ q,Aft p q (.ok rest)∧∀ G,iPs (G+as.length) f p st=iPs G f q { st with arrays:=st.arrays++as }
 | [],p,st,ts,hp,ht,_=>by
  have:ts=[]:=by simpa using ht
  subst this
  exact ⟨p,On.self hp,fun G=>by simp⟩
 | s::gs,p,st,ts,hp,ht,hn=>by
  rw [List.flatMap_cons] at ht
  obtain ⟨A,B,rfl,h1,h2⟩:=map_app ht
  rw [List.all_cons,Bool.and_eq_true] at hn
  rw [List.append_assoc] at hp
  have hnm:nameOk s.name=true:=by have:=hn.1;unfold arOk at this;simp only [Bool.and_eq_true] at this;exact this.1.1
  obtain ⟨q,h3,h4⟩:=iW_a (f:=f) (st:=st) hp h1 hnm
  obtain ⟨q',h5,h6⟩:=iPs_a gs q { st with arrays:=st.arrays++[s] } B h4.1 h2 hn.2
  refine ⟨q',h4.tr h5,fun G=>?_⟩
  obtain ⟨u,r,rfl,_,_⟩:=map_cons h1
  rw [List.length_cons,←Nat.add_assoc,iPs_step hp h3,h6]
  simp
def xOk (x:Fn × List S):Prop:=nameOk x.1.name=true∧namesOk x.1.params=true∧S.oks x.2=true
theorem iPs_f {f:Nat}:∀ (xs:List (Fn × List S)) (p:RS) (st:PS) (ts:List Tok),On p ts→Srt p.l→fW p≤f→ts.map kf=xs.flatMap fTk→(∀ x∈xs,xOk x) →
  ((xs.all fun x=>blkFit x.2 1)=true→∃ q l,(∀ G,xs.length < G→iPs G f p st=some (q,{ st with trees:=st.trees++l,fns:=st.fns++xs.map fun x=>(x.1.name,x.1.params) }))∧q.code=0∧ers l=xs.map fun x=>blkTree x.2) ∧
  ((xs.all fun x=>blkFit x.2 1)=false→∃ q st',(∀ G,xs.length < G→iPs G f p st=some (q,st'))∧q.code≠0)
 | [],p,st,ts,hp,_,_,ht,_=>by
  have:ts=[]:=by simpa using ht
  subst this
  refine ⟨fun _=>⟨p,[],fun G hG=>?_,hp.code,by rw [ers];rfl⟩,fun h=>by cases h⟩
  obtain ⟨G,rfl⟩:∃ g',G=g'+1:=⟨G - 1,by rw [List.length_nil] at hG;omega⟩
  rw [iPs,if_neg (fun hc=>lt_n hp hc.2)]
  simp
 | x::xs,p,st,ts,hp,hs,hf,ht,hx=>by
  rw [List.flatMap_cons] at ht
  obtain ⟨A,B,rfl,h1,h2⟩:=map_app ht
  obtain ⟨x1,x2,x3⟩:=hx x List.mem_cons_self
  obtain ⟨k1,k2⟩:=iW_f (st:=st) hp hs hf h1 x1 x2 x3
  have hne:∃ u r,A++B=u::r:=by obtain ⟨u,r,rfl,_,_⟩:=map_cons h1;exact ⟨u,_,rfl⟩
  obtain ⟨u,r,hu⟩:=hne
  rw [hu] at hp
  cases hb:blkFit x.2 1 with
  | false =>
   obtain ⟨q,st',k3,k4⟩:=k2 hb
   refine ⟨fun h=>(by rw [List.all_cons,hb] at h;cases h),fun _=>⟨q,st',fun G hG=>?_,k4⟩⟩
   obtain ⟨G,rfl⟩:∃ g',G=g'+1:=⟨G - 1,by rw [List.length_cons] at hG;omega⟩
   rw [iPs_step hp k3,iPs_err k4 (by rw [List.length_cons] at hG;omega)]
  | true =>
   obtain ⟨q,t,k3,k4,k5⟩:=k1 hb
   have hql:q.l=p.l:=k5.2.1
   obtain ⟨j1,j2⟩:=iPs_f (f:=f) xs q { st with trees:=st.trees++[t],fns:=st.fns++[(x.1.name,x.1.params)] } B k5.1 (by rw [hql];exact hs) (by unfold fW at hf ⊢;rw [hql];exact hf) h2 (fun y hy=>hx y (List.mem_cons_of_mem _ hy))
   rw [List.all_cons,hb,Bool.true_and]
   refine ⟨fun h=>?_,fun h=>?_⟩
   ·obtain ⟨q',l,j3,j4,j5⟩:=j1 h
    refine ⟨q',t::l,fun G hG=>?_,j4,by rw [ers,k4,j5];rfl⟩
    obtain ⟨G,rfl⟩:∃ g',G=g'+1:=⟨G - 1,by rw [List.length_cons] at hG;omega⟩
    rw [iPs_step hp k3,j3 G (by rw [List.length_cons] at hG;omega)]
    simp
   ·obtain ⟨q',st',j3,j4⟩:=j2 h
    refine ⟨q',st',fun G hG=>?_,j4⟩
    obtain ⟨G,rfl⟩:∃ g',G=g'+1:=⟨G - 1,by rw [List.length_cons] at hG;omega⟩
    rw [iPs_step hp k3,j3 G (by rw [List.length_cons] at hG;omega)]
theorem prog_read (G:List Str) (As:List Ar) (xs:List (Fn × List S)) (h1:namesOk G=true) (h2:As.all arOk=true) (h3:∀ x∈xs,xOk x) :
  ∃ ts,Tz (catF f2 (catF a1 (catF g1 [] G) As) xs) 0 ts (catF f2 (catF a1 (catF g1 [] G) As) xs).length ∧
  (Srt ts→∀ (e:Int) (g f:Nat),ts.length+1≤g→40 * ts.length+100≤f →
   ((xs.all fun x=>blkFit x.2 1)=true→∃ q l,iPs g f ⟨ts,0,e,0,0⟩ .empty=some (q,⟨l,G,As,xs.map fun x=>(x.1.name,x.1.params)⟩)∧q.code=0∧ers l=xs.map fun x=>blkTree x.2) ∧
   ((xs.all fun x=>blkFit x.2 1)=false→∃ q st',iPs g f ⟨ts,0,e,0,0⟩ .empty=some (q,st')∧q.code≠0)):=by
 have l1:=lex_cat (f:=g1) (k:=gTk) G (fun s hs=>lex_g (List.all_eq_true.1 h1 s hs)) [] [] LexF.nil
 have l2:=lex_cat (f:=a1) (k:=aTk) As (fun s hs=>lex_a (List.all_eq_true.1 h2 s hs)) _ _ l1
 have l3:=lex_cat (f:=f2) (k:=fTk) xs (fun x hx=>by obtain ⟨a,b,c⟩:=h3 x hx;exact lex_f a b c) _ _ l2
 obtain ⟨ts,k1,k2⟩:=l3.all
 refine ⟨ts,k2,fun hs e g f hg hf=>?_⟩
 rw [List.nil_append] at k1
 obtain ⟨A,C,rfl,k3,k4⟩:=map_app k1
 obtain ⟨A,B,rfl,k5,k6⟩:=map_app k3
 have hon:On ⟨(A++B)++C,0,e,0,0⟩ (A++(B++C)):=⟨rfl,Nat.zero_le _,by simp,k2.kinds⟩
 obtain ⟨q1,j1,j2⟩:=iPs_g (f:=f) G _ .empty A hon k5 h1
 obtain ⟨q2,j3,j4⟩:=iPs_a (f:=f) As q1 _ B j1.1 k6 h2
 have hql:q2.l=(A++B)++C:=(j1.tr j3).2.1
 obtain ⟨j5,j6⟩:=iPs_f (f:=f) xs q2 { ({ PS.empty with globals:=PS.empty.globals++G }:PS) with arrays:=PS.empty.arrays++As } C j3.1 (by rw [hql];exact hs) (by unfold fW;rw [hql];exact hf) k4 h3
 have c1:G.length≤A.length:=by
  have:=congrArg List.length k5
  rw [List.length_map] at this
  rw [this]
  clear this k5 j1 j2 j3 j4 j5 j6 hql hon hs k1 k2 k3 l1 l2 l3 hf hg h1
  induction G with
  | nil=>exact Nat.le_refl _
  | cons s G ih=>rw [List.flatMap_cons,List.length_append,List.length_cons];simp only [gTk,List.length_cons,List.length_nil];omega
 have c2:As.length≤B.length:=by
  have:=congrArg List.length k6
  rw [List.length_map] at this
  rw [this]
  clear this k6 j1 j2 j3 j4 j5 j6 hql hon hs k1 k2 k3 l1 l2 l3 hf hg h2
  induction As with
  | nil=>exact Nat.le_refl _
  | cons s G ih=>rw [List.flatMap_cons,List.length_append,List.length_cons];simp only [aTk,List.length_cons,List.length_nil];omega
 have c3:xs.length≤C.length:=by
  have:=congrArg List.length k4
  rw [List.length_map] at this
  rw [this]
  clear this k4 j1 j2 j3 j4 j5 j6 hql hon hs k1 k2 k3 l1 l2 l3 hf hg h3
  induction xs with
  | nil=>exact Nat.le_refl _
  | cons s G ih=>rw [List.flatMap_cons,List.length_append,List.length_cons];simp only [fTk,List.length_cons];omega
 rw [List.length_append,List.length_append] at hg
 have hrun:∃ g',xs.length < g'∧g=g'+As.length+G.length:=⟨g - As.length - G.length,by omega,by omega⟩
 obtain ⟨g',hg',rfl⟩:=hrun
 rw [j2,j4]
 refine ⟨fun h=>?_,fun h=>?_⟩
 ·obtain ⟨q,l,j7,j8,j9⟩:=j5 h
  exact ⟨q,l,j7 g' hg',j8,j9⟩
 ·obtain ⟨q,st',j7,j8⟩:=j6 h
  exact ⟨q,st',j7 g' hg',j8⟩
end Go.Im
