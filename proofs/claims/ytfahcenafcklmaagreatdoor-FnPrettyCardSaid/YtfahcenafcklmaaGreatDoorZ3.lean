/- Part 3 of proofs that are told in their last texts. -/
import Derived.Test.YtfahcenafcklmaaGreatDoorZ2
import Derived.Test.YtfahcenafcklmaaGreatDoorZ1
open List (getElem?_cons_zero length_cons length_nil tail_cons)
set_option linter.unusedVariables false
set_option linter.unusedSimpArgs false
set_option maxRecDepth 100000
namespace Go.Xp
open Go.Sp (bC fm)
abbrev K:=Int × Int × ae
def kf (t:Tok):K:=(t.kind,t.n,t.s)
abbrev kS (s:ae):K:=(3,0,s)
abbrev kN (s:ae):K:=(2,0,s)
abbrev kI (n:Int):K:=(1,n,[])
inductive E where
 | num (n:Int)
 | name (s:ae)
 | at_ (s:ae) (a:E)
 | call (s:ae) (l:List E)
 | un (s:ae) (a:E)
 | bin (s:ae) (a b:E)
def dz (s:ae):Nat:=(levels.findIdx? fun l=>l.contains s).getD 9
def E.lv:E->Nat
 | .bin s _ _=>dz s
 | _=>9
def brk (lv k:Nat) (x:List K):List K:=if lv < k then kS [40]::(x++[kS [41]]) else x
mutual
def E.tk:E->List K
 | .num n=>[kI n]
 | .name s=>[kN s]
 | .at_ s a=>kN s::kS [91]::(a.tk++[kS [93]])
 | .call s l=>kN s::kS [40]::(E.kY l++[kS [41]])
 | .un s a=>kS s::brk a.lv 9 a.tk
 | .bin s a b=>brk a.lv (dz s) a.tk++kS s::brk b.lv (dz s+1) b.tk
def E.kY:List E->List K
 | []=>[]
 | a::l=>a.tk++E.qj l
def E.qj:List E->List K
 | []=>[]
 | a::l=>kS [44]::(a.tk++E.qj l)
end
mutual
def E.tree:E->T
 | .num n=>.mk ⟨1,0,n,[],[]⟩ []
 | .name s=>.mk ⟨2,0,0,s,[]⟩ []
 | .at_ s a=>.mk ⟨3,0,0,s,[]⟩ [a.tree]
 | .call s l=>.mk ⟨4,0,0,s,[]⟩ (E.trees l)
 | .un s a=>.mk ⟨5,0,0,s,[]⟩ [a.tree]
 | .bin s a b=>.mk ⟨6,0,0,s,[]⟩ [a.tree,b.tree]
def E.trees:List E->List T
 | []=>[]
 | a::l=>a.tree::E.trees l
end
def Ho (lv k d:Nat) (f:Nat->Bool):Bool:=if lv < k then decide (d<=60)&&decide (d+1<=60)&&f (d+2) else f d
mutual
def E.fit:E->Nat->Bool
 | .num _,d=>decide (d<=60)
 | .name _,d=>decide (d<=60)
 | .at_ _ a,d=>decide (d<=60)&&decide (d+1<=60)&&a.fit (d+2)
 | .call _ l,d=>decide (d<=60)&&E.fits l (d+1)
 | .un _ a,d=>decide (d<=60)&&(if a.lv < 9 then decide (d+1<=60)&&decide (d+2<=60)&&a.fit (d+3) else a.fit (d+1))
 | .bin s a b,d=>(if a.lv < dz s then decide (d<=60)&&decide (d+1<=60)&&a.fit (d+2) else a.fit d)&&(if b.lv < dz s+1 then decide (d<=60)&&decide (d+1<=60)&&b.fit (d+2) else b.fit d)
def E.fits:List E->Nat->Bool
 | [],_=>true
 | a::l,d=>decide (d<=60)&&a.fit (d+1)&&E.fits l d
end
mutual
def E.ok:E->Bool
 | .num n=>decide (0<=n)&&decide (n<=2147483647)
 | .name s=>bC s
 | .at_ s a=>bC s&&a.ok
 | .call s l=>bC s&&E.bW l
 | .un s a=>(s==[45] || s==[33] || s==[126])&&a.ok
 | .bin s a b=>fm s&&a.ok&&b.ok
def E.bW:List E->Bool
 | []=>true
 | a::l=>a.ok&&E.bW l
end
mutual
def er:T->T
 | .mk n l=>.mk ⟨n.kind,0,n.n,n.s,[]⟩ (aK l)
def aK:List T->List T
 | []=>[]
 | t::l=>er t::aK l
end
theorem Hv (l k:List T):aK (l++k)=aK l++aK k:=by
 induction l with
 | nil=>rfl
 | cons t l ih=>simp [aK,ih]
theorem sy (l:List T):aK l=l.map er:=by
 induction l with
 | nil=>rfl
 | cons t l ih=>simp [aK,ih]
theorem dO (k a:Int) (s:ae) (l:List T):er (one k a s l)=.mk ⟨k,0,0,s,[]⟩ (aK l):=by unfold one;rw [er]
def Ev (e:Int) (j:sM) (ts:List Tok) (x:Rd T):Prop:=∃ f0,∀ f,f0<=f->rd e f j ts=x
def Ea (e:Int) (d:Nat) (acc:List T) (ts:List Tok) (x:Rd (List T)):Prop:=∃ f0,∀ f,f0<=f->rd.args e f d acc ts=x
section
variable {e:Int} {d k:Nat} {ts r:List Tok} {t out:T} {x:Rd T} {y:Er}
theorem yS {j j':sM} {ts iz:List Tok} {x x':Rd T} (h:Ev e j ts x) (hs:∀ f,rd e f j ts=x->rd e (f+1) j' iz=x'):Ev e j' iz x':=by
 exact zbK
theorem V1 {j j' j2:sM} {ts iz vJ:List Tok} {x x' x2:Rd T} (h:Ev e j ts x) (I:Ev e j2 vJ x2) (hs:∀ f,rd e f j ts=x->rd e f j2 vJ=x2->rd e (f+1) j' iz=x'):Ev e j' iz x':=by
 exact zbo
theorem KT {j':sM} {iz:List Tok} {x':Rd T} (hs:∀ f,rd e (f+1) j' iz=x'):Ev e j' iz x' :=
 ⟨1,fun f hf=>by obtain ⟨f,rfl⟩:∃ g,f=g+1:=⟨f - 1,by omega⟩;exact hs f⟩
theorem Ev.expr (hd:d<=60) (h:Ev e (.level 0 (d+1)) ts x):Ev e (.expr d) ts x:=yS h fun f h=>by rw [rd,ad ak];exact h
theorem Ev.UX (hd:60 < d):Ev e (.expr d) ts (.error (9,place e ts)):=KT fun f=>by rw [rd,ah hd]
theorem Ev.level (hk:k≠9) (h:Ev e (.level (k+1) d) ts (.ok (out,r))) (I:Ev e (.loop k d out) r x):Ev e (.level k d) ts x:=V1 h I fun f h I=>by rw [rd,ad hk,h];exact I
theorem Ev.TQ (hk:k≠9) (h:Ev e (.level (k+1) d) ts (.error y)):Ev e (.level k d) ts (.error y):=yS h fun f h=>by rw [rd,ad hk,h]
theorem Ev.Fm (h:Ev e (.operand d) ts x):Ev e (.level 9 d) ts x:=yS h fun f h=>by rw [rd,ah rfl];exact h
theorem Ev.stop (h:sign ts 0 ∉ levels.getD k []):Ev e (.loop k d out) ts (.ok (out,ts)):=KT fun f=>by
 cases ts with
 | nil=>rw [rd]
 | cons t r =>
  rw [rd,ad];rintro ⟨h3,h4⟩;apply h;simp only [sign,getElem?_cons_zero,df,h3,if_true];exact h4
theorem Ev.go {t:Tok} {b:T} {r':List Tok} (h3:t.kind=3) (hs:t.s∈levels.getD k []) (h:Ev e (.level (k+1) d) r (.ok (b,r'))) (I:Ev e (.loop k d (one 6 t.at_ t.s [out,b])) r' x):Ev e (.loop k d out) (t::r) x :=
 V1 h I fun f h I=>by rw [rd,ah ⟨h3,hs⟩,h];exact I
theorem Ev.Yr {t:Tok} (h3:t.kind=3) (hs:t.s∈levels.getD k []) (h:Ev e (.level (k+1) d) r (.error y)):Ev e (.loop k d out) (t::r) (.error y) :=
 yS h fun f h=>by rw [rd,ah ⟨h3,hs⟩,h]
theorem Ev.PA (hd:60 < d):Ev e (.operand d) ts (.error (9,place e ts)):=KT fun f=>by rw [rd.eq_def];simp only;rw [ah hd]
theorem Ev.num {t:Tok} (hd:d<=60) (h:t.kind=1):Ev e (.operand d) (t::r) (.ok (.mk ⟨1,t.at_,t.n,[],[]⟩ [],r)):=KT fun f=>by
 rw [rd.eq_def];simp only;rw [ad ak,ad ak,ah h]
theorem Ev.un {t:Tok} {a:T} {r':List Tok} (hd:d<=60) (h3:t.kind=3) (hs:t.s=[45]\/t.s=[33]\/t.s=[126]) (h:Ev e (.operand (d+1)) r (.ok (a,r'))):Ev e (.operand d) (t::r) (.ok (one 5 t.at_ t.s [a],r')) :=
 yS h fun f h=>by rw [rd.eq_def];simp only;rw [ad ak,ah h3,ah hs,h]
theorem Ev.Z6 {t:Tok} (hd:d<=60) (h3:t.kind=3) (hs:t.s=[45]\/t.s=[33]\/t.s=[126]) (h:Ev e (.operand (d+1)) r (.error y)):Ev e (.operand d) (t::r) (.error y) :=
 yS h fun f h=>by rw [rd.eq_def];simp only;rw [ad ak,ah h3,ah hs,h]
theorem Ev.par {t u:Tok} {a:T} {r':List Tok} (hd:d<=60) (h3:t.kind=3) (hs:t.s=[40]) (hu:u.kind=3) (fK:u.s=[41]) (h:Ev e (.expr (d+1)) r (.ok (a,u::r'))):Ev e (.operand d) (t::r) (.ok (a,r')) :=
 yS h fun f h=>by
  rw [rd.eq_def];simp only;rw [ad ak,ah h3,ad zeZ,ah hs,h];simp only [aI,sign,getElem?_cons_zero,df,hu,if_true,fK,tail_cons]
theorem Ev.X1 {t:Tok} (hd:d<=60) (h3:t.kind=3) (hs:t.s=[40]) (h:Ev e (.expr (d+1)) r (.error y)):Ev e (.operand d) (t::r) (.error y) :=
 yS h fun f h=>by rw [rd.eq_def];simp only;rw [ad ak,ah h3,ad zeZ,ah hs,h]
theorem sB {t:Tok} (I:t.kind=2) (hl:t.s.length<=12):name e (t::r)=.ok (t.s,r):=by
 simp only [name,I,if_true];rw [ad ak]
theorem Ev.name {t:Tok} (hd:d<=60) (I:t.kind=2) (hl:t.s.length<=12) (n1:sign r 0≠[91]) (n2:sign r 0≠[40]):Ev e (.operand d) (t::r) (.ok (one 2 t.at_ t.s [],r)):=KT fun f=>by
 refine za9 ?_;rw [ad n1,ad n2]
theorem Ev.ix {t u w:Tok} {a:T} {r':List Tok} (hd:d<=60) (I:t.kind=2) (hl:t.s.length<=12) (hu:u.kind=3) (fK:u.s=[91]) (hw:w.kind=3) (Df:w.s=[93]) (h:Ev e (.expr (d+1)) r (.ok (a,w::r'))):Ev e (.operand d) (t::u::r) (.ok (one 3 t.at_ t.s [a],r')) :=
 yS h fun f h=>by
  refine za9 ?_;rw [ah (by simp only [sign,getElem?_cons_zero,df,hu,if_true,fK]),tail_cons,h];simp only [aI,sign,getElem?_cons_zero,df,hw,if_true,Df,tail_cons]
theorem Ev.Wz {t u:Tok} (hd:d<=60) (I:t.kind=2) (hl:t.s.length<=12) (hu:u.kind=3) (fK:u.s=[91]) (h:Ev e (.expr (d+1)) r (.error y)):Ev e (.operand d) (t::u::r) (.error y) :=
 yS h fun f h=>by
  refine za9 ?_;rw [ah (by simp only [sign,getElem?_cons_zero,df,hu,if_true,fK]),tail_cons,h]
theorem Ev.call {t u:Tok} {l:List T} {r':List Tok} (hd:d<=60) (I:t.kind=2) (hl:t.s.length<=12) (hu:u.kind=3) (fK:u.s=[40]) (h:Ea e (d+1) [] r (.ok (l,r'))):Ev e (.operand d) (t::u::r) (.ok (one 4 t.at_ t.s l,r')):=by
 obtain ⟨f0,h0⟩:=h;refine ⟨f0+1,fun f hf=>?_⟩;obtain ⟨f,rfl⟩:∃ g,f=g+1:=⟨f - 1,by omega⟩
 have hs:sign (u::r) 0=[40]:=by simp only [sign,getElem?_cons_zero,df,hu,if_true,fK]
 exact zdX
theorem Ev.UO {t u:Tok} (hd:d<=60) (I:t.kind=2) (hl:t.s.length<=12) (hu:u.kind=3) (fK:u.s=[40]) (h:Ea e (d+1) [] r (.error y)):Ev e (.operand d) (t::u::r) (.error y):=by
 obtain ⟨f0,h0⟩:=h;refine ⟨f0+1,fun f hf=>?_⟩;obtain ⟨f,rfl⟩:∃ g,f=g+1:=⟨f - 1,by omega⟩
 have hs:sign (u::r) 0=[40]:=by simp only [sign,getElem?_cons_zero,df,hu,if_true,fK]
 exact zdX
theorem Ea.nil {u:Tok} {acc:List T} (hu:u.kind=3) (fK:u.s=[41]):Ea e d acc (u::r) (.ok (acc,r)):=⟨1,fun f hf=>by
 obtain ⟨f,rfl⟩:∃ g,f=g+1:=⟨f - 1,by omega⟩
 have hs:sign (u::r) 0=[41]:=by simp only [sign,getElem?_cons_zero,df,hu,if_true,fK]
 rw [rd.args,ah hs];rfl⟩
theorem Ea.first {a:T} {r':List Tok} {x:Rd (List T)} (hs:sign r 0≠[41]) (h:Ev e (.expr d) r (.ok (a,r'))) (I:Ea e d [a] r' x):Ea e d [] r x:=by
 obtain ⟨f0,h0⟩:=h;obtain ⟨cI,D⟩:=I;refine ⟨f0+cI+1,fun f hf=>?_⟩;obtain ⟨f,rfl⟩:∃ g,f=g+1:=⟨f - 1,by omega⟩;rw [rd.args,ad hs,ah rfl];simp only;rw [h0 f ak];exact D f ak
theorem Ea.SC {a:T} (hs:sign r 0≠[41]) (h:Ev e (.expr d) r (.error y)):Ea e d [] r (.error y):=by
 obtain ⟨f0,h0⟩:=h;refine ⟨f0+1,fun f hf=>?_⟩;obtain ⟨f,rfl⟩:∃ g,f=g+1:=⟨f - 1,by omega⟩;rw [rd.args,ad hs,ah rfl];simp only;rw [h0 f ak]
theorem Ea.more {u:Tok} {acc:List T} {a:T} {r':List Tok} {x:Rd (List T)} (ha:acc≠[]) (hu:u.kind=3) (fK:u.s=[44]) (h:Ev e (.expr d) r (.ok (a,r'))) (I:Ea e d (acc++[a]) r' x):Ea e d acc (u::r) x:=by
 obtain ⟨f0,h0⟩:=h;obtain ⟨cI,D⟩:=I;refine ⟨f0+cI+1,fun f hf=>?_⟩;obtain ⟨f,rfl⟩:∃ g,f=g+1:=⟨f - 1,by omega⟩
 have hs:sign (u::r) 0=[44]:=by simp only [sign,getElem?_cons_zero,df,hu,if_true,fK]
 rw [rd.args,ad zeZ,ad ha,aI,ah hs];simp only [tail_cons];rw [h0 f ak];exact D f ak
theorem Ea.Vi {u:Tok} {acc:List T} (ha:acc≠[]) (hu:u.kind=3) (fK:u.s=[44]) (h:Ev e (.expr d) r (.error y)):Ea e d acc (u::r) (.error y):=by
 obtain ⟨f0,h0⟩:=h;refine ⟨f0+1,fun f hf=>?_⟩;obtain ⟨f,rfl⟩:∃ g,f=g+1:=⟨f - 1,by omega⟩
 have hs:sign (u::r) 0=[44]:=by simp only [sign,getElem?_cons_zero,df,hu,if_true,fK]
 rw [rd.args,ad zeZ,ad ha,aI,ah hs];simp only [tail_cons];rw [h0 f ak]
structure Stop (r:List Tok) (k:Nat):Prop where
 a:sign r 0≠[91]
 b:sign r 0≠[40]
 c:∀ j,k < j->sign r 0 ∉ levels.getD j []
theorem Stop.mono {k':Nat} (h:Stop r k) (hk:k<=k'):Stop r k':=⟨h.a,h.b,fun j hj=>h.c j ak⟩
theorem Ev.lift {m:Nat} (h:Ev e (.level m d) ts (.ok (t,r))) (hm:m<=9) (hs:Stop r k):∀ n,m=k+1+n->Ev e (.loop k d t) r x->Ev e (.level k d) ts x:=by
 intro n
 induction n generalizing m with
 | zero=>intro he I;exact Ev.level ak (by rw [<-he];exact h) I
 | succ n ih =>
  intro he I;exact ih (m:=k+1+n) (Ev.level ak (by rw [show k+1+n+1=m by omega];exact h) (Ev.stop (hs.c _ ak))) ak rfl I
theorem Ev.Qs {m:Nat} (h:Ev e (.level m d) ts (.error y)) (hm:m<=9):∀ n,m=k+n->Ev e (.level k d) ts (.error y):=by
 intro n
 induction n generalizing m with
 | zero=>intro he;subst he;exact h
 | succ n ih=>intro he;exact ih (m:=k+n) (Ev.TQ ak (by rw [show k+n+1=m by omega];exact h)) ak rfl
def Rt (e:Int) (k d:Nat) (ts rest:List Tok) (Q:T->Prop) (b:Bool):Prop :=
 (b=true->∃ t,Q t/\(k < 9->∀ x,Ev e (.loop k d t) rest x->Ev e (.level k d) ts x)/\(k=9->Ev e (.level 9 d) ts (.ok (t,rest))))/\(b=false->∃ pos,Ev e (.level k d) ts (.error (9,pos)))
def Ro (e:Int) (d:Nat) (ts rest:List Tok) (Q:T->Prop) (b:Bool):Prop :=
 (b=true->∃ t,Q t/\Ev e (.operand d) ts (.ok (t,rest)))/\(b=false->∃ pos,Ev e (.operand d) ts (.error (9,pos)))
def Rx (e:Int) (d:Nat) (ts rest:List Tok) (Q:T->Prop) (b:Bool):Prop :=
 (b=true->∃ t,Q t/\Ev e (.expr d) ts (.ok (t,rest)))/\(b=false->∃ pos,Ev e (.expr d) ts (.error (9,pos)))
theorem Ro.rt {rest:List Tok} {Q:T->Prop} {b:Bool} (h:Ro e d ts rest Q b) (hk:k<=9) (hs:Stop rest k):Rt e k d ts rest Q b:=by
 refine ⟨fun hb=>?_,fun hb=>?_⟩
 ·obtain ⟨t,D,I⟩:=h.1 hb;exact ⟨t,D,fun y5 x h3=>Ev.lift (Ev.Fm I) (aD _) hs (8 - k) ak h3,fun _=>Ev.Fm I⟩
 ·obtain ⟨pos,D⟩:=h.2 hb;exact ⟨pos,Ev.Qs (Ev.Fm D) (aD _) (9 - k) ak⟩
theorem Rt.down {rest:List Tok} {Q:T->Prop} {b:Bool} {m:Nat} (h:Rt e m d ts rest Q b) (hm:m < 9) (hk:k<=m) (hs:Stop rest k):Rt e k d ts rest Q b:=by
 rcases Nat.lt_or_ge k m with ar | hO
 ·refine ⟨fun hb=>?_,fun hb=>?_⟩
  ·obtain ⟨t,D,I,_⟩:=h.1 hb;have h3:=I hm _ (Ev.stop (hs.c m ar));exact ⟨t,D,fun y5 x h4=>Ev.lift h3 ak hs (m - 1 - k) ak h4,fun h9=>by omega⟩
  ·obtain ⟨pos,D⟩:=h.2 hb;exact ⟨pos,Ev.Qs D ak (m - k) ak⟩
 ·obtain rfl:k=m:=by omega
  exact h
theorem Rt.rx {rest:List Tok} {Q:T->Prop} {b:Bool} (h:Rt e 0 (d+1) ts rest Q b) (hs:sign rest 0 ∉ levels.getD 0 []):Rx e d ts rest Q (decide (d<=60)&&b):=by
 by_cases hd:d<=60
 ·have:(decide (d<=60)&&b)=b:=by simp [hd]
  rw [this];refine ⟨fun hb=>?_,fun hb=>?_⟩
  ·obtain ⟨t,D,I,_⟩:=h.1 hb;exact ⟨t,D,Ev.expr hd (I ak _ (Ev.stop hs))⟩
  ·obtain ⟨pos,D⟩:=h.2 hb;exact ⟨pos,Ev.expr hd D⟩
 ·have:(decide (d<=60)&&b)=false:=by simp [hd]
  rw [this];exact ⟨fun hb=>zfE,fun _=>⟨_,Ev.UX ak⟩⟩
end
theorem Ev.Qv {e:Int} {d:Nat} {ts:List Tok} {x:Rd T} (h:Ev e (.level 9 d) ts x):Ev e (.operand d) ts x:=by
 obtain ⟨f0,h0⟩:=h;refine ⟨f0,fun f hf=>?_⟩;have:=h0 (f+1) ak;rw [rd,ah rfl] at this;exact this
theorem Ro.Qv {e:Int} {d:Nat} {ts rest:List Tok} {Q:T->Prop} {b:Bool} (h:Rt e 9 d ts rest Q b):Ro e d ts rest Q b :=
 ⟨fun hb=>by obtain ⟨t,D,_,I⟩:=h.1 hb;exact ⟨t,D,(I rfl).Qv⟩,fun hb=>by obtain ⟨pos,D⟩:=h.2 hb;exact ⟨pos,D.Qv⟩⟩
theorem sG {t:Tok} {r:List Tok} {s:ae} (h:kf t=kS s):sign (t::r) 0=s:=by
 simp only [kf,kS,Prod.mk.injEq] at h;simp only [sign,getElem?_cons_zero,df,h.1,if_true,h.2.2]
theorem CA {t:Tok} {r:List Tok} (h:t.kind≠3):sign (t::r) 0=[]:=by
 simp only [sign,getElem?_cons_zero,df,ad h]
theorem H3 {j:Nat} (h:9<=j):levels.getD j []=[]:=by
 rw [List.getD_eq_getElem?_getD,List.getElem?_eq_none (by simpa [levels] using h)];rfl
theorem DB {r:List Tok} {s:ae} (h:sign r 0=s) (hs:s=[]\/s=[41]\/s=[93]\/s=[44]\/s=[59]\/s=[61]):Stop r 0:=by
 have h9:∀ j,j < 9->∀ s:ae,(s=[]\/s=[41]\/s=[93]\/s=[44]\/s=[59]\/s=[61])->s ∉ levels.getD j []:=by
  intro j hj s hs
  have:∀ j,j < 9->∀ s∈([[],[41],[93],[44],[59],[61]]:List ae),s ∉ levels.getD j []:=by decide
  exact this j hj s (by simpa using hs)
 refine ⟨?_,?_,fun j _=>?_⟩
 ·exact zbR
 ·exact zbR
 ·rw [h]
  rcases Nat.lt_or_ge j 9 with h0 | h0
  ·exact h9 j h0 s hs
  ·rw [H3 h0];simp
theorem Bm {r:List Tok} {s:ae} (h:sign r 0=s) (hs:s=[]\/s=[41]\/s=[93]\/s=[44]\/s=[59]\/s=[61]):sign r 0 ∉ levels.getD 0 []:=by
 exact zbR
theorem nM {s:ae} (h:fm s=true):dz s < 9/\s∈levels.getD (dz s) []/\s≠[91]/\s≠[40]/\∀ j,dz s < j->s ∉ levels.getD j []:=by
 have hm:s∈levels.flatten:=by
  exact zce
 have key:∀ s∈levels.flatten,dz s < 9/\s∈levels.getD (dz s) []/\s≠[91]/\s≠[40]/\∀ j,j < 9->dz s < j->s ∉ levels.getD j []:=by decide
 obtain ⟨D,I,h3,h4,h5⟩:=key s hm;refine ⟨D,I,h3,h4,fun j hj=>?_⟩
 rcases Nat.lt_or_ge j 9 with h0 | h0
 ·exact h5 j h0 hj
 ·rw [H3 h0];simp
theorem E.aab {a:E} (h:a.ok=true):a.lv<=9:=by
 cases a with
 | bin s a b=>simp only [E.ok,au] at h;exact Nat.le_of_lt (nM h.1.1).1
 | _=>exact aD _
def kr (a:E):Prop:=∀ (e:Int) (k d:Nat) (ts rest:List Tok),k<=a.lv->a.ok=true->ts.map kf=a.tk->Stop rest k->Rt e k d (ts++rest) rest (fun t=>er t=a.tree) (a.fit d)
def UG (a:E):Prop:=∀ (e:Int) (k d:Nat) (ts rest:List Tok),k<=9->a.ok=true->ts.map kf=brk a.lv k a.tk->Stop rest k->Rt e k d (ts++rest) rest (fun t=>er t=a.tree) (Ho a.lv k d a.fit)
theorem map_cons {ts:List Tok} {k:K} {l:List K} (h:ts.map kf=k::l):∃ t r,ts=t::r/\kf t=k/\r.map kf=l:=List.map_eq_cons_iff.1 h
theorem c8 {ts:List Tok} {l l':List K} (h:ts.map kf=l++l'):∃ a b,ts=a++b/\a.map kf=l/\b.map kf=l':=List.map_eq_append_iff.1 h
theorem iq {ts:List Tok} {k:K} (h:ts.map kf=[k]):∃ t,ts=[t]/\kf t=k:=by
 obtain ⟨t,r,rfl,D,I⟩:=map_cons h
 have:r=[]:=by simpa using I
 subst this;exact ⟨t,rfl,D⟩
theorem dZ {t:Tok} {s:ae} (h:kf t=kS s):t.kind=3/\t.s=s:=by simp only [kf,kS,Prod.mk.injEq] at h;exact ⟨h.1,h.2.2⟩
theorem pd {t:Tok} {s:ae} (h:kf t=kN s):t.kind=2/\t.s=s:=by simp only [kf,kN,Prod.mk.injEq] at h;exact ⟨h.1,h.2.2⟩
theorem OB {t:Tok} {n:Int} (h:kf t=kI n):t.kind=1/\t.n=n:=by simp only [kf,kI,Prod.mk.injEq] at h;exact ⟨h.1,h.2.1⟩
theorem kr.rx {a:E} (h:kr a) {e:Int} {d:Nat} {ts rest:List Tok} {s:ae} (ho:a.ok=true) (ht:ts.map kf=a.tk) (hs:sign rest 0=s) (mq:s=[]\/s=[41]\/s=[93]\/s=[44]\/s=[59]\/s=[61]) :
  Rx e d (ts++rest) rest (fun t=>er t=a.tree) (decide (d<=60)&&a.fit (d+1)):=(h e 0 (d+1) ts rest (aY _) ho ht (DB hs mq)).rx (Bm hs mq)
theorem kr.EA {a:E} (h:kr a):UG a:=by
 intro e k d ts rest hk ho ht hs;unfold brk at ht;unfold Ho
 by_cases hl:a.lv < k
 ·rw [ah hl] at ht |-;obtain ⟨t,r,rfl,D,I⟩:=map_cons ht;obtain ⟨A,B,rfl,h3,h4⟩:=c8 I;obtain ⟨u,rfl,h5⟩:=iq h4;obtain ⟨D,cY⟩:=dZ D;obtain ⟨h5,PK⟩:=dZ h5;have hx:=h.rx (e:=e) (d:=d+1) (rest:=u::rest) (s:=[41]) ho h3 (by simp only [sign,getElem?_cons_zero,df,h5,if_true,PK]) zeL;refine Ro.rt ?_ hk hs
  have he:t::(A++[u])++rest=t::(A++u::rest):=by simp
  rw [he]
  by_cases hd:d<=60
  ·have:(decide (d<=60)&&decide (d+1<=60)&&a.fit (d+2))=(decide (d+1<=60)&&a.fit (d+1+1)):=by simp [hd]
   rw [this];refine ⟨fun hb=>?_,fun hb=>?_⟩
   ·obtain ⟨t',k1,k2⟩:=hx.1 hb;exact ⟨t',k1,Ev.par hd D cY h5 PK k2⟩
   ·obtain ⟨pos,k1⟩:=hx.2 hb;exact ⟨pos,Ev.X1 hd D cY k1⟩
  ·have:(decide (d<=60)&&decide (d+1<=60)&&a.fit (d+2))=false:=by simp [hd]
   exact zdL
 ·rw [ad hl] at ht |-;exact h e k d ts rest ak ho ht hs
theorem sF {e:Int} {d:Nat} {ts rest:List Tok} {Q:T->Prop} {b:Bool} (h:d<=60->Ro e d ts rest Q b):Ro e d ts rest Q (decide (d<=60)&&b):=by
 by_cases hd:d<=60
 ·have:(decide (d<=60)&&b)=b:=by simp [hd]
  rw [this];exact h hd
 ·have:(decide (d<=60)&&b)=false:=by simp [hd]
  exact zdL
theorem iY {s:ae} (h:bC s=true):s.length<=12:=by
 simp only [Go.Sp.bC,au,decide_eq_true_eq] at h;exact h.1.2
theorem NC (n:Int):kr (.num n):=by
 intro e k d ts rest hk ho ht hs;obtain ⟨t,rfl,D⟩:=iq ht;obtain ⟨D,I⟩:=OB D;refine Ro.rt ?_ hk hs
 have:=sF (e:=e) (d:=d) (ts:=[t]++rest) (rest:=rest) (Q:=fun t=>er t=(E.num n).tree) (b:=true) fun hd=>⟨fun _=>⟨_,?_,Ev.num hd D⟩,fun h=>by cases h⟩
 ·simpa [E.fit] using this
 ·show er _=_;rw [er,E.tree,I];rfl
theorem KO (s:ae):kr (.name s):=by
 intro e k d ts rest hk ho ht hs;obtain ⟨t,rfl,D⟩:=iq ht;obtain ⟨D,I⟩:=pd D;simp only [E.ok] at ho;refine Ro.rt ?_ hk hs
 have:=sF (e:=e) (d:=d) (ts:=[t]++rest) (rest:=rest) (Q:=fun t=>er t=(E.name s).tree) (b:=true) fun hd=>⟨fun _=>⟨_,?_,Ev.name hd D (by rw [I];exact iY ho) hs.a hs.b⟩,fun h=>by cases h⟩
 ·simpa [E.fit] using this
 ·show er _=_;rw [dO,E.tree,I];rfl
theorem QU (s:ae) {a:E} (C:kr a):kr (.at_ s a):=by
 intro e k d ts rest hk ho ht hs;simp only [E.ok,au] at ho;rw [E.tk] at ht;obtain ⟨t,r,rfl,D,I⟩:=map_cons ht;obtain ⟨u,r,rfl,h3,h4⟩:=map_cons I;obtain ⟨A,B,rfl,h5,h6⟩:=c8 h4;obtain ⟨w,rfl,h7⟩:=iq h6;obtain ⟨D,cY⟩:=pd D;obtain ⟨h3,kz⟩:=dZ h3;obtain ⟨h7,kM⟩:=dZ h7
 have hl:t.s.length<=12:=by rw [cY];exact iY ho.1
 have hx:=C.rx (e:=e) (d:=d+1) (rest:=w::rest) (s:=[93]) ho.2 h5 (by simp only [sign,getElem?_cons_zero,df,h7,if_true,kM]) zeL;refine Ro.rt ?_ hk hs
 have he:t::u::(A++[w])++rest=t::u::(A++w::rest):=by simp
 rw [he,E.fit,Bool.and_assoc]
 refine sF fun hd=>⟨fun hb=>?_,fun hb=>?_⟩
 ·obtain ⟨t',k1,k2⟩:=hx.1 hb;exact ⟨_,by show er _=_;rw [dO,aK,k1,cY,E.tree];rfl,Ev.ix hd D hl h3 kz h7 kM k2⟩
 ·exact zdM
theorem QW (s:ae) {a:E} (C:kr a):kr (.un s a):=by
 intro e k d ts rest hk ho ht hs;simp only [E.ok,au,Bool.or_eq_true,beq_iff_eq] at ho;rw [E.tk] at ht;obtain ⟨t,r,rfl,D,I⟩:=map_cons ht;obtain ⟨D,cY⟩:=dZ D;have y5:k<=9:=hk;have hg:=Ro.Qv (C.EA e 9 (d+1) r rest (aD _) ho.2 I (hs.mono y5));refine Ro.rt ?_ hk hs
 have tf:t.s=[45]\/t.s=[33]\/t.s=[126]:=by rw [cY];rcases ho.1 with (h | h) | h <;> simp [h]
 rw [E.fit]
 refine sF fun hd=>⟨fun hb=>?_,fun hb=>?_⟩
 ·obtain ⟨t',k1,k2⟩:=hg.1 hb;exact ⟨_,by show er _=_;rw [dO,aK,k1,cY,E.tree];rfl,Ev.un hd D tf k2⟩
 ·obtain ⟨pos,k1⟩:=hg.2 hb;exact ⟨pos,Ev.Z6 hd D tf k1⟩
theorem Nz (s:ae) {a b:E} (Ca:kr a) (Cb:kr b):kr (.bin s a b):=by
 intro e k d ts rest hk ho ht hs;simp only [E.ok,au] at ho;obtain ⟨l1,l2,l3,l4,l5⟩:=nM ho.1.1;rw [E.tk] at ht;obtain ⟨A,B,rfl,D,I⟩:=c8 ht;obtain ⟨t,r,rfl,h3,h4⟩:=map_cons I;obtain ⟨h3,kz⟩:=dZ h3;have eZ:k<=dz s:=hk;have iy:=hs.mono eZ;refine Rt.down (m:=dz s) ?_ l1 eZ hs
 have dE:sign (t::(r++rest)) 0=s:=by simp only [sign,getElem?_cons_zero,df,h3,if_true,kz]
 have ga:=Ca.EA e (dz s) d A (t::(r++rest)) ak ho.1.2 D ⟨by rw [dE];exact l3,by rw [dE];exact l4,fun j hj=>by rw [dE];exact l5 j hj⟩;have gb:=Cb.EA e (dz s+1) d r rest ak ho.2 h4 (iy.mono ak)
 have he:A++t::r++rest=A++t::(r++rest):=by simp
 rw [he,E.fit]
 change Rt e (dz s) d _ rest _ (Ho a.lv (dz s) d a.fit&&Ho b.lv (dz s+1) d b.fit)
 have tf:t.s∈levels.getD (dz s) []:=by rw [kz];exact l2
 cases hfa:Ho a.lv (dz s) d a.fit with
 | false =>
  refine ⟨fun hb=>zfE,fun _=>ga.2 hfa⟩
 | true =>
  obtain ⟨ta,k1,k2,_⟩:=ga.1 hfa
  cases hfb:Ho b.lv (dz s+1) d b.fit with
  | false =>
   refine ⟨fun hb=>zfE,fun _=>?_⟩;obtain ⟨pos,k3⟩:=gb.2 hfb;exact ⟨pos,k2 l1 _ (Ev.Yr h3 tf k3)⟩
  | true =>
   refine ⟨fun _=>?_,fun hb=>zfE⟩;obtain ⟨tb,k3,k4,k5⟩:=gb.1 hfb
   have k6:Ev e (.level (dz s+1) d) (r++rest) (.ok (tb,rest)):=by
    rcases Nat.lt_or_ge (dz s+1) 9 with h9 | h9
    ·exact k4 h9 _ (Ev.stop (iy.c _ ak))
    ·have:dz s+1=9:=by omega
     rw [this] at k5 |-;exact k5 rfl
   exact ⟨one 6 t.at_ t.s [ta,tb],by show er _=_;rw [dO,aK,aK,aK,k1,k3,kz,E.tree],fun _ x hx=>k2 l1 x (Ev.go h3 tf k6 hx),fun h9=>by omega⟩
def PF (k:K):Prop:=k.1=1\/k.1=2\/(k.1=3/\(k.2.2=[45]\/k.2.2=[33]\/k.2.2=[126]\/k.2.2=[40]))
theorem E.head:∀ (a:E),a.ok=true->∃ k r,a.tk=k::r/\PF k
 | .num n,_=>⟨_,_,rfl,.inl rfl⟩
 | .name s,_=>⟨_,_,rfl,.inr (.inl rfl)⟩
 | .at_ s a,_=>⟨_,_,rfl,.inr (.inl rfl)⟩
 | .call s l,_=>⟨_,_,rfl,.inr (.inl rfl)⟩
 | .un s a,h=>⟨_,_,rfl,.inr (.inr ⟨rfl,by simp only [E.ok,au,Bool.or_eq_true,beq_iff_eq] at h;rcases h.1 with (h | h) | h <;> simp [h]⟩)⟩
 | .bin s a b,h=>by
  simp only [E.ok,au] at h;obtain ⟨k,r,D,I⟩:=E.head a h.1.2;rw [E.tk,brk];split
  ·exact ⟨_,_,rfl,.inr (.inr ⟨rfl,by simp⟩)⟩
  ·rw [D];exact ⟨k,_,rfl,I⟩
theorem zF {t:Tok} {r:List Tok} (h:PF (kf t)):sign (t::r) 0=[]\/sign (t::r) 0=[45]\/sign (t::r) 0=[33]\/sign (t::r) 0=[126]\/sign (t::r) 0=[40]:=by
 rcases h with h | h | ⟨h,h'⟩
 ·left;exact CA (by simp only [kf] at h;omega)
 ·left;exact CA (by simp only [kf] at h;omega)
 ·right
  have:sign (t::r) 0=t.s:=by simp only [kf] at h;simp only [sign,getElem?_cons_zero,df,h,if_true]
  rw [this];exact h'
def xZ (l:List E):Prop:=∀ (e:Int) (d:Nat) (acc:List T) (ts rest:List Tok) (u:Tok),E.bW l=true->acc≠[]->ts.map kf=E.qj l->u.kind=3->u.s=[41] ->
 (E.fits l d=true->∃ ys,aK ys=E.trees l/\Ea e d acc (ts++u::rest) (.ok (acc++ys,rest)))/\(E.fits l d=false->∃ pos,Ea e d acc (ts++u::rest) (.error (9,pos)))
theorem KL:xZ []:=by
 intro e d acc ts rest u _ ha ht hu fK
 have:ts=[]:=by simpa [E.qj] using ht
 subst this;exact ⟨fun _=>⟨[],rfl,by rw [fk];exact Ea.nil hu fK⟩,fun h=>by simp [E.fits] at h⟩
theorem DC {l:List E} {ts rest:List Tok} {u:Tok} (ht:ts.map kf=E.qj l) (hu:u.kind=3) (fK:u.s=[41]):∃ s,sign (ts++u::rest) 0=s/\(s=[]\/s=[41]\/s=[93]\/s=[44]\/s=[59]\/s=[61]):=by
 cases l with
 | nil =>
  have:ts=[]:=by simpa [E.qj] using ht
  subst this;exact ⟨[41],by simp only [List.nil_append,sign,getElem?_cons_zero,df,hu,if_true,fK],by simp⟩
 | cons a l =>
  rw [E.qj] at ht;obtain ⟨t,r,rfl,D,_⟩:=map_cons ht;exact ⟨[44],sG D,by simp⟩
theorem Jb {a:E} {l:List E} (Ca:kr a) (Cl:xZ l):xZ (a::l):=by
 intro e d acc ts rest u ho ha ht hu fK;simp only [E.bW,au] at ho;rw [E.qj] at ht;obtain ⟨t,r,rfl,D,I⟩:=map_cons ht;obtain ⟨A,B,rfl,h3,h4⟩:=c8 I;obtain ⟨D,cY⟩:=dZ D;obtain ⟨s,lC,jQ⟩:=DC (rest:=rest) h4 hu fK;have hx:=Ca.rx (e:=e) (d:=d) (rest:=B++u::rest) (s:=s) ho.1 h3 lC jQ
 have he:t::(A++B)++u::rest=t::(A++(B++u::rest)):=by simp
 rw [he,E.fits]
 cases hfa:decide (d<=60)&&a.fit (d+1) with
 | false =>
  refine ⟨fun hb=>zfr,fun _=>?_⟩;obtain ⟨pos,k1⟩:=hx.2 hfa;exact ⟨pos,Ea.Vi ha D cY k1⟩
 | true =>
  obtain ⟨ta,k1,k2⟩:=hx.1 hfa;have hl:=Cl e d (acc++[ta]) B rest u ho.2 zeL h4 hu fK;refine ⟨fun hb=>?_,fun hb=>?_⟩
  ·obtain ⟨ys,k3,k4⟩:=hl.1 ze0;exact ⟨ta::ys,by rw [aK,k1,k3,E.trees],Ea.more ha D cY k2 (by rw [fF] at k4;exact k4)⟩
  ·obtain ⟨pos,k3⟩:=hl.2 ze0;exact ⟨pos,Ea.more ha D cY k2 k3⟩
theorem KN (s:ae) {l:List E} (Cf:∀ a r,l=a::r->kr a/\xZ r):kr (.call s l):=by
 intro e k d ts rest hk ho ht hs;simp only [E.ok,au] at ho;rw [E.tk] at ht;obtain ⟨t,r,rfl,D,I⟩:=map_cons ht;obtain ⟨u,r,rfl,h3,h4⟩:=map_cons I;obtain ⟨A,B,rfl,h5,h6⟩:=c8 h4;obtain ⟨w,rfl,h7⟩:=iq h6;obtain ⟨D,cY⟩:=pd D;obtain ⟨h3,kz⟩:=dZ h3;obtain ⟨h7,kM⟩:=dZ h7
 have hl:t.s.length<=12:=by rw [cY];exact iY ho.1
 refine Ro.rt ?_ hk hs
 have he:t::u::(A++[w])++rest=t::u::(A++w::rest):=by simp
 rw [he,E.fit]
 refine sF fun hd=>?_
 have key:(E.fits l (d+1)=true->∃ ys,aK ys=E.trees l/\Ea e (d+1) [] (A++w::rest) (.ok (ys,rest)))/\(E.fits l (d+1)=false->∃ pos,Ea e (d+1) [] (A++w::rest) (.error (9,pos))):=by
  cases l with
  | nil =>
   have:A=[]:=by simpa [E.kY] using h5
   subst this;exact ⟨fun _=>⟨[],rfl,Ea.nil h7 kM⟩,fun h=>by simp [E.fits] at h⟩
  | cons a l =>
   obtain ⟨Ca,Cl⟩:=Cf a l rfl;have y9:=ho.2;simp only [E.bW,au] at y9;rw [E.kY] at h5;obtain ⟨A,B,rfl,h3,h4⟩:=c8 h5;obtain ⟨s,lC,jQ⟩:=DC (rest:=rest) h4 h7 kM;have hx:=Ca.rx (e:=e) (d:=d+1) (rest:=B++w::rest) (s:=s) y9.1 h3 lC jQ;rw [fF]
   have bZ:sign (A++(B++w::rest)) 0≠[41]:=by
    obtain ⟨kk,rr,k1,k2⟩:=E.head a y9.1;rw [k1] at h3;obtain ⟨t0,r0,rfl,k3,_⟩:=map_cons h3
    rcases zF (r:=r0++(B++w::rest)) (by rw [k3];exact k2) with h | h | h | h | h <;> (rw [List.cons_append,h];decide)
   rw [E.fits]
   cases hfa:decide (d+1<=60)&&a.fit (d+1+1) with
   | false =>
    refine ⟨fun hb=>zfr,fun _=>?_⟩;obtain ⟨pos,k1⟩:=hx.2 hfa;exact ⟨pos,Ea.SC (a:=T.mk ⟨0,0,0,[],[]⟩ []) bZ k1⟩
   | true =>
    obtain ⟨ta,k1,k2⟩:=hx.1 hfa;have ow:=Cl e (d+1) [ta] B rest w y9.2 zeL h4 h7 kM;refine ⟨fun hb=>?_,fun hb=>?_⟩
    ·obtain ⟨ys,k3,k4⟩:=ow.1 ze0;exact ⟨ta::ys,by rw [aK,k1,k3,E.trees],Ea.first bZ k2 k4⟩
    ·obtain ⟨pos,k3⟩:=ow.2 ze0;exact ⟨pos,Ea.first bZ k2 k3⟩
 refine ⟨fun hb=>?_,fun hb=>?_⟩
 ·obtain ⟨ys,k1,k2⟩:=key.1 hb;exact ⟨_,by show er _=_;rw [dO,k1,cY,E.tree],Ev.call hd D hl h3 kz k2⟩
 ·obtain ⟨pos,k1⟩:=key.2 hb;exact ⟨pos,Ev.UO hd D hl h3 kz k1⟩
mutual
theorem core:∀ (a:E),kr a
 | .num n=>NC n
 | .name s=>KO s
 | .at_ s a=>QU s (core a)
 | .call s l=>KN s (UQ l)
 | .un s a=>QW s (core a)
 | .bin s a b=>Nz s (core a) (core b)
theorem UQ:∀ (l:List E),∀ a r,l=a::r->kr a/\xZ r
 | []=>fun a r h=>by cases h
 | a::r=>fun a' r' h=>by cases h;exact ⟨core a,KM r⟩
theorem KM:∀ (l:List E),xZ l
 | []=>KL
 | a::l=>Jb (core a) (KM l)
end
inductive S where
 | set (s:ae) (a:E)
 | put (s:ae) (a b:E)
 | if1 (c:E) (b:List S)
 | if2 (c:E) (b b2:List S)
 | while_ (c:E) (b:List S)
 | ret (a:E)
 | do_ (a:E)
 | var (s:ae) (a:E)
mutual
def S.tk:S->List K
 | .set s a=>kN s::kS [61]::(a.tk++[kS [59]])
 | .put s a b=>kN s::kS [91]::(a.tk++kS [93]::kS [61]::(b.tk++[kS [59]]))
 | .if1 c b=>kS eW::kS [40]::(c.tk++kS [41]::kS [123]::(S.kY b++[kS [125]]))
 | .if2 c b b2=>kS eW::kS [40]::(c.tk++kS [41]::kS [123]::(S.kY b++kS [125]::kS gF::kS [123]::(S.kY b2++[kS [125]])))
 | .while_ c b=>kS fC::kS [40]::(c.tk++kS [41]::kS [123]::(S.kY b++[kS [125]]))
 | .ret a=>kS fL::(a.tk++[kS [59]])
 | .do_ a=>a.tk++[kS [59]]
 | .var s a=>kS lF::kN s::kS [61]::(a.tk++[kS [59]])
def S.kY:List S->List K
 | []=>[]
 | a::l=>a.tk++S.kY l
end
mutual
def S.tree:S->T
 | .set s a=>.mk ⟨7,0,0,s,[]⟩ [a.tree]
 | .put s a b=>.mk ⟨8,0,0,s,[]⟩ [a.tree,b.tree]
 | .if1 c b=>.mk ⟨9,0,0,[],[]⟩ [c.tree,.mk ⟨14,0,0,[],[]⟩ (S.trees b)]
 | .if2 c b b2=>.mk ⟨9,0,0,[],[]⟩ [c.tree,.mk ⟨14,0,0,[],[]⟩ (S.trees b),.mk ⟨14,0,0,[],[]⟩ (S.trees b2)]
 | .while_ c b=>.mk ⟨10,0,0,[],[]⟩ [c.tree,.mk ⟨14,0,0,[],[]⟩ (S.trees b)]
 | .ret a=>.mk ⟨11,0,0,[],[]⟩ [a.tree]
 | .do_ a=>.mk ⟨12,0,0,[],[]⟩ [a.tree]
 | .var s a=>.mk ⟨13,0,0,s,[]⟩ [a.tree]
def S.trees:List S->List T
 | []=>[]
 | a::l=>a.tree::S.trees l
end
def pV (a:E) (d:Nat):Bool:=decide (d<=60)&&a.fit (d+1)
mutual
def S.fit:S->Nat->Bool
 | .set _ a,d=>decide (d<=60)&&pV a (d+1)
 | .put s a b,d=>decide (d<=60)&&(pV (.at_ s a) (d+1)&&pV b (d+1))
 | .if1 c b,d=>decide (d<=60)&&(pV c (d+1)&&(decide (d+1<=60)&&S.fits b (d+2)))
 | .if2 c b b2,d=>decide (d<=60)&&(pV c (d+1)&&((decide (d+1<=60)&&S.fits b (d+2))&&(decide (d+1<=60)&&S.fits b2 (d+2))))
 | .while_ c b,d=>decide (d<=60)&&(pV c (d+1)&&(decide (d+1<=60)&&S.fits b (d+2)))
 | .ret a,d=>decide (d<=60)&&pV a (d+1)
 | .do_ a,d=>decide (d<=60)&&pV a (d+1)
 | .var _ a,d=>decide (d<=60)&&pV a (d+1)
def S.fits:List S->Nat->Bool
 | [],_=>true
 | a::l,d=>a.fit d&&S.fits l d
end
mutual
def S.ok:S->Bool
 | .set s a=>bC s&&a.ok
 | .put s a b=>bC s&&(a.ok&&b.ok)
 | .if1 c b=>c.ok&&S.bW b
 | .if2 c b b2=>c.ok&&(S.bW b&&S.bW b2)
 | .while_ c b=>c.ok&&S.bW b
 | .ret a=>a.ok
 | .do_ a=>a.ok
 | .var s a=>bC s&&a.ok
def S.bW:List S->Bool
 | []=>true
 | a::l=>a.ok&&S.bW l
end
def Es (e:Int) (j:rS) (ts:List Tok) (x:Rd T):Prop:=∃ f0,∀ f,f0<=f->rs e f j ts=x
def Eb (e:Int) (d:Nat) (acc:List T) (ts:List Tok) (x:Rd (List T)):Prop:=∃ f0,∀ f,f0<=f->rs.body e f d acc ts=x
theorem Ev.ex {e:Int} {d:Nat} {ts:List Tok} {x:Rd T} (h:Ev e (.expr d) ts x):Go.Xp.expr e d ts=x:=by
 obtain ⟨f0,h0⟩:=h;rw [<-BU (e:=e) (d:=d) (ts:=ts) (f:=f0+(20 * ts.length+12)) ak];exact h0 _ ak
def Xx (e:Int) (d:Nat) (ts rest:List Tok) (Q:T->Prop) (b:Bool):Prop :=
 (b=true->∃ t,Q t/\expr e d ts=.ok (t,rest))/\(b=false->∃ pos,expr e d ts=.error (9,pos))
theorem Rx.xx {e:Int} {d:Nat} {ts rest:List Tok} {Q:T->Prop} {b:Bool} (h:Rx e d ts rest Q b):Xx e d ts rest Q b :=
 ⟨fun hb=>by obtain ⟨t,D,I⟩:=h.1 hb;exact ⟨t,D,I.ex⟩,fun hb=>by obtain ⟨pos,D⟩:=h.2 hb;exact ⟨pos,D.ex⟩⟩
theorem E.xx {a:E} {e:Int} {d:Nat} {ts rest:List Tok} {s:ae} (ho:a.ok=true) (ht:ts.map kf=a.tk) (hs:sign rest 0=s) (mq:s=[]\/s=[41]\/s=[93]\/s=[44]\/s=[59]\/s=[61]) :
  Xx e d (ts++rest) rest (fun t=>er t=a.tree) (pV a d):=((core a).rx ho ht hs mq).xx
def Sx (e:Int) (j:rS) (ts rest:List Tok) (Q:T->Prop) (b:Bool):Prop :=
 (b=true->∃ t,Q t/\Es e j ts (.ok (t,rest)))/\(b=false->∃ pos,Es e j ts (.error (9,pos)))
section
variable {e:Int} {d:Nat} {ts rest:List Tok} {Q:T->Prop} {b:Bool}
theorem r7 {j:rS} {x:Rd T} (hs:∀ f,rs e (f+1) j ts=x):Es e j ts x :=
 ⟨1,fun f hf=>by obtain ⟨f,rfl⟩:∃ g,f=g+1:=⟨f - 1,by omega⟩;exact hs f⟩
theorem pN (h:d<=60->Sx e (.stmt d) ts rest Q b):Sx e (.stmt d) ts rest Q (decide (d<=60)&&b):=by
 by_cases hd:d<=60
 ·have:(decide (d<=60)&&b)=b:=by simp [hd]
  rw [this];exact h hd
 ·have:(decide (d<=60)&&b)=false:=by simp [hd]
  exact zcJ
theorem qM {u:Tok} {s:ae} (hu:u.kind=3) (fK:u.s=s):aI e s (u::rest)=.ok rest:=by
 have hs:sign (u::rest) 0=s:=by simp only [sign,getElem?_cons_zero,df,hu,if_true,fK]
 unfold aI;rw [ah hs];rfl
theorem tG {u:Tok} {s:ae} (hu:u.kind=3) (fK:u.s=s):sign (u::rest) 0=s:=by simp only [sign,getElem?_cons_zero,df,hu,if_true,fK]
theorem vf {a:E} {u w:Tok} {A:List Tok} {sa sb:ae} (ho:a.ok=true) (ht:A.map kf=a.tk) (hu:u.kind=3) (fK:u.s=sa) (hw:w.kind=3) (Df:w.s=sb) (Zm:sb=[]\/sb=[41]\/sb=[93]\/sb=[44]\/sb=[59]\/sb=[61]) :
  (pV a d=true->∃ t,er t=a.tree/\inner e d sa sb (u::(A++w::rest))=.ok (t,rest))/\(pV a d=false->∃ pos,inner e d sa sb (u::(A++w::rest))=.error (9,pos)):=by
 have hx:=E.xx (e:=e) (d:=d) (rest:=w::rest) ho ht (tG hw Df) Zm;unfold inner;rw [qM hu fK];refine ⟨fun hb=>?_,fun hb=>?_⟩
 ·obtain ⟨t,D,I⟩:=hx.1 hb;exact ⟨t,D,by simp only;rw [I];simp only;rw [qM hw Df]⟩
 ·obtain ⟨pos,D⟩:=hx.2 hb;exact ⟨pos,by simp only;rw [D]⟩
theorem Ix {a:E} {v u w:Tok} {A:List Tok} (ho:a.ok=true) (hv:v.kind=2) (TF:v.s.length<=12) (ht:A.map kf=a.tk) (hu:u.kind=3) (fK:u.s=[61]) (hw:w.kind=3) (Df:w.s=[59]) :
  (pV a d=true->∃ t,er t=a.tree/\kW e d (v::u::(A++w::rest))=.ok ((v.s,t),rest))/\(pV a d=false->∃ pos,kW e d (v::u::(A++w::rest))=.error (9,pos)):=by
 have hi:=vf (e:=e) (d:=d) (rest:=rest) ho ht hu fK hw Df zeL;unfold kW;rw [sB hv TF];refine ⟨fun hb=>?_,fun hb=>?_⟩
 ·obtain ⟨t,D,I⟩:=hi.1 hb;exact ⟨t,D,by simp only;rw [I]⟩
 ·obtain ⟨pos,D⟩:=hi.2 hb;exact ⟨pos,by simp only;rw [D]⟩
theorem iP {t:Tok} {s:ae} (h:t.kind=2) (hs:s≠[]):sign (t::rest) 0≠s:=by rw [CA ak];exact fun h=>hs h.symm
def q8 (s:S):Prop:=∀ (e:Int) (d:Nat) (ts rest:List Tok),s.ok=true->ts.map kf=s.tk->sign rest 0≠gF->Sx e (.stmt d) (ts++rest) rest (fun t=>er t=s.tree) (s.fit d)
theorem NG (s:ae) (a:E):q8 (.set s a):=by
 intro e d ts rest ho ht _;simp only [S.ok,au] at ho;rw [S.tk] at ht;obtain ⟨t,r,rfl,D,I⟩:=map_cons ht;obtain ⟨u,r,rfl,h3,h4⟩:=map_cons I;obtain ⟨A,B,rfl,h5,h6⟩:=c8 h4;obtain ⟨w,rfl,h7⟩:=iq h6;obtain ⟨D,cY⟩:=pd D;obtain ⟨h3,kz⟩:=dZ h3;obtain ⟨h7,kM⟩:=dZ h7
 have he:t::u::(A++[w])++rest=t::u::(A++w::rest):=by simp
 have hx:=Ix (e:=e) (d:=d+1) (rest:=rest) ho.2 D (by rw [cY];exact iY ho.1) h5 h3 kz h7 kM;rw [he,S.fit];have iM:t.kind=2/\sign (t::u::(A++w::rest)) 1=[61]:=⟨D,by simp only [sign,List.getElem?_cons_succ,getElem?_cons_zero,df,h3,if_true,kz]⟩
 refine pN fun hd=>⟨fun hb=>?_,fun hb=>?_⟩
 ·obtain ⟨t',k1,k2⟩:=hx.1 hb;refine ⟨one 7 t.at_ t.s [t'],by show er _=_;rw [dO,aK,k1,cY,S.tree];rfl,r7 fun f=>?_⟩;refine zdk ?_;rw [ah iM,k2]
 ·obtain ⟨pos,k1⟩:=hx.2 hb;refine ⟨pos,r7 fun f=>?_⟩;refine zdk ?_;rw [ah iM,k1]
theorem NH (s:ae) (a:E):q8 (.var s a):=by
 intro e d ts rest ho ht _;simp only [S.ok,au] at ho;rw [S.tk] at ht;obtain ⟨v,r,rfl,h0,ht⟩:=map_cons ht;obtain ⟨t,r,rfl,D,I⟩:=map_cons ht;obtain ⟨u,r,rfl,h3,h4⟩:=map_cons I;obtain ⟨A,B,rfl,h5,h6⟩:=c8 h4;obtain ⟨w,rfl,h7⟩:=iq h6;obtain ⟨h0,rA⟩:=dZ h0;obtain ⟨D,cY⟩:=pd D;obtain ⟨h3,kz⟩:=dZ h3;obtain ⟨h7,kM⟩:=dZ h7
 have he:v::t::u::(A++[w])++rest=v::t::u::(A++w::rest):=by simp
 have hx:=Ix (e:=e) (d:=d+1) (rest:=rest) ho.2 D (by rw [cY];exact iY ho.1) h5 h3 kz h7 kM;rw [he,S.fit]
 refine pN fun hd=>⟨fun hb=>?_,fun hb=>?_⟩
 ·obtain ⟨t',k1,k2⟩:=hx.1 hb;refine ⟨one 13 v.at_ t.s [t'],by show er _=_;rw [dO,aK,k1,cY,S.tree];rfl,r7 fun f=>?_⟩;rw [rs,ad ak];simp only;rw [ah (tG h0 rA),tail_cons,k2];rfl
 ·obtain ⟨pos,k1⟩:=hx.2 hb;refine ⟨pos,r7 fun f=>?_⟩;rw [rs,ad ak];simp only;rw [ah (tG h0 rA),tail_cons,k1]
theorem NF (a:E):q8 (.ret a):=by
 intro e d ts rest ho ht _;simp only [S.ok] at ho;rw [S.tk] at ht;obtain ⟨v,r,rfl,h0,h4⟩:=map_cons ht;obtain ⟨A,B,rfl,h5,h6⟩:=c8 h4;obtain ⟨w,rfl,h7⟩:=iq h6;obtain ⟨h0,rA⟩:=dZ h0;obtain ⟨h7,kM⟩:=dZ h7
 have he:v::(A++[w])++rest=v::(A++w::rest):=by simp
 have hx:=E.xx (e:=e) (d:=d+1) (rest:=w::rest) ho h5 (tG h7 kM) zeL;rw [he,S.fit];have hs:=tG (rest:=A++w::rest) h0 rA
 refine pN fun hd=>⟨fun hb=>?_,fun hb=>?_⟩
 ·obtain ⟨t',k1,k2⟩:=hx.1 hb;refine ⟨one 11 v.at_ [] [t'],by show er _=_;rw [dO,aK,k1,S.tree];rfl,r7 fun f=>?_⟩;rw [rs,ad ak];simp only;rw [ad zeZ,ad zeZ,ah hs,tail_cons,k2];simp only;rw [qM h7 kM];rfl
 ·obtain ⟨pos,k1⟩:=hx.2 hb;refine ⟨pos,r7 fun f=>?_⟩;rw [rs,ad ak];simp only;rw [ad zeZ,ad zeZ,ah hs,tail_cons,k1]
def qP (l:List K):Prop:=∀ k∈l,k.1=3->k.2.2≠[61]
theorem qQ {l l':List K}:qP (l++l')↔qP l/\qP l':=by
 unfold qP;constructor
 ·intro h;exact ⟨fun k hk=>h k (List.mem_append_left _ hk),fun k hk=>h k (List.mem_append_right _ hk)⟩
 ·rintro ⟨D,I⟩ k hk;rcases nY hk with hk | hk
  ·exact D k hk
  ·exact I k hk
theorem gH {a:K} {l:List K}:qP (a::l)↔(a.1=3->a.2.2≠[61])/\qP l:=by
 unfold qP;simp only [List.mem_cons,forall_eq_or_imp]
theorem pe:qP []:=fun k hk=>by cases hk
theorem xH {lv k:Nat} {x:List K} (h:qP x):qP (brk lv k x):=by
 unfold brk;split
 ·rw [gH,qQ,gH];exact ⟨fun _=>by decide,h,fun _=>by decide,pe⟩
 ·exact h
mutual
theorem E.yw:∀ (a:E),a.ok=true->qP a.tk
 | .num n,_=>by rw [E.tk,gH];exact ⟨fun h=>zeT,pe⟩
 | .name s,_=>by rw [E.tk,gH];exact ⟨fun h=>zeT,pe⟩
 | .at_ s a,h=>by
  simp only [E.ok,au] at h;rw [E.tk,gH,gH,qQ,gH];exact ⟨fun h=>zeT,fun _=>ai,E.yw a h.2,fun _=>ai,pe⟩
 | .call s l,h=>by
  simp only [E.ok,au] at h;rw [E.tk,gH,gH,qQ,gH];exact ⟨fun h=>zeT,fun _=>ai,(E.Mg l h.2).1,fun _=>ai,pe⟩
 | .un s a,h=>by
  simp only [E.ok,au,Bool.or_eq_true,beq_iff_eq] at h;rw [E.tk,gH];exact ⟨fun _=>(by rcases h.1 with (h | h) | h <;> (simp only [kS,h];decide)),xH (E.yw a h.2)⟩
 | .bin s a b,h=>by
  simp only [E.ok,au] at h;rw [E.tk,qQ,gH];exact ⟨xH (E.yw a h.1.2),fun _ h0=>(by simp only [kS] at h0;rw [h0] at h;exact absurd h.1.1 ai),xH (E.yw b h.2)⟩
theorem E.Mg:∀ (l:List E),E.bW l=true->qP (E.kY l)/\qP (E.qj l)
 | [],_=>by rw [E.kY,E.qj];exact ⟨pe,pe⟩
 | a::l,h=>by
  simp only [E.bW,au] at h;have D:=E.yw a h.1;have I:=E.Mg l h.2;rw [E.kY,E.qj,qQ,gH,qQ];exact ⟨⟨D,I.2⟩,fun _=>ai,D,I.2⟩
end
theorem J1 {ts:List Tok} {k:Nat} {s:ae} (h:∀ t,ts[k]?=some t->t.kind=3->t.s≠s) (hs:s≠[]):sign ts k≠s:=by
 unfold sign
 cases hk:ts[k]? with
 | none=>exact fun h=>hs h.symm
 | some t =>
  simp only [df];split
  ·rename_i h3;exact h t hk h3
  ·exact fun h=>hs h.symm
theorem GD {a:E} {A:List Tok} {w:Tok} (ho:a.ok=true) (h5:A.map kf=a.tk) (hw:w.s≠[61]):sign (A++w::rest) 1≠[61]:=by
 obtain ⟨k0,r0,hh,_⟩:=E.head a ho;refine J1 (fun t ht h3 tf=>?_) ai
 have hlen:1<=A.length:=by
  have:=congrArg List.length h5;rw [hh] at this;simp at this;omega
 rw [List.getElem?_append] at ht;split at ht
 ·have hm:kf t∈a.tk:=by rw [<-h5];exact List.mem_map_of_mem (bM ht)
  exact E.yw a ho _ hm h3 tf
 ·have:1 - A.length=0:=by omega
  rw [this] at ht;cases ht;exact hw tf
theorem QV (a:E):q8 (.do_ a):=by
 intro e d ts rest ho ht _;simp only [S.ok] at ho;rw [S.tk] at ht;obtain ⟨A,B,rfl,h5,h6⟩:=c8 ht;obtain ⟨w,rfl,h7⟩:=iq h6;obtain ⟨h7,kM⟩:=dZ h7
 have he:A++[w]++rest=A++w::rest:=by simp
 have hx:=E.xx (e:=e) (d:=d+1) (rest:=w::rest) ho h5 (tG h7 kM) zeL;have Dc:=GD (rest:=rest) (w:=w) ho h5 (by rw [kM];decide);obtain ⟨k0,r0,hh,hf⟩:=E.head a ho;obtain ⟨t,r,rfl,h8,_⟩:=map_cons (by rw [<-hh];exact h5);rw [he,S.fit];rw [List.cons_append] at hx Dc |-;have Y2:=zF (r:=r++w::rest) (by rw [h8];exact hf)
 have iM:¬ (t.kind=2/\sign (t::(r++w::rest)) 1=[61]):=fun h=>Dc h.2
 have cE:∀ s:ae,s=lF\/s=eW\/s=fC\/s=fL->sign (t::(r++w::rest)) 0≠s:=by
  intro s hs;rcases Y2 with h | h | h | h | h <;> rcases hs with rfl | rfl | rfl | rfl <;> (rw [h];decide)
 refine pN fun hd=>⟨fun hb=>?_,fun hb=>?_⟩
 ·obtain ⟨t',k1,k2⟩:=hx.1 hb;refine ⟨one 12 t.at_ [] [t'],by show er _=_;rw [dO,aK,k1,S.tree];rfl,r7 fun f=>?_⟩;refine zcj ?_;rw [ad iM,k2];simp only;rw [ad (fun h=>by have:=h.2.2;rw [tG h7 kM] at this;revert this;decide),qM h7 kM]
 ·obtain ⟨pos,k1⟩:=hx.2 hb;refine ⟨pos,r7 fun f=>?_⟩;refine zcj ?_;rw [ad iM,k1]
theorem W0 {s:ae} {a:E} {t u w:Tok} {A:List Tok} {sg:ae} (hn:bC s=true) (ho:a.ok=true) (D:t.kind=2) (cY:t.s=s) (h3:u.kind=3) (kz:u.s=[91]) (h5:A.map kf=a.tk) (h7:w.kind=3) (kM:w.s=[93]) (hs:sign rest 0=sg) (mq:sg=[]\/sg=[41]\/sg=[93]\/sg=[44]\/sg=[59]\/sg=[61]) :
  Xx e d (t::u::(A++w::rest)) rest (fun x=>er x=(E.at_ s a).tree/\x.n.kind=3/\x.n.at_=t.at_/\x.n.s=s/\∃ y,x.kids=[y]/\er y=a.tree) (pV (.at_ s a) d):=by
 have hl:t.s.length<=12:=by rw [cY];exact iY hn
 have hx:=(core a).rx (e:=e) (d:=d+1+1) (rest:=w::rest) (s:=[93]) ho h5 (tG h7 kM) zeL
 have Zl:Ro e (d+1) (t::u::(A++w::rest)) rest (fun x=>er x=(E.at_ s a).tree/\x.n.kind=3/\x.n.at_=t.at_/\x.n.s=s/\∃ y,x.kids=[y]/\er y=a.tree) ((E.at_ s a).fit (d+1)):=by
  rw [E.fit,Bool.and_assoc]
  refine sF fun hd=>⟨fun hb=>?_,fun hb=>?_⟩
  ·obtain ⟨t',k1,k2⟩:=hx.1 hb;exact ⟨one 3 t.at_ t.s [t'],⟨by rw [dO,aK,k1,cY,E.tree];rfl,rfl,rfl,cY,_,rfl,k1⟩,Ev.ix hd D hl h3 kz h7 kM k2⟩
  ·exact zdM
 exact ((Zl.rt (aY 9) (DB hs mq)).rx (Bm hs mq)).xx
theorem ND (s:ae) (a b:E):q8 (.put s a b):=by
 intro e d ts rest ho ht _;simp only [S.ok,au] at ho;rw [S.tk] at ht;obtain ⟨t,r,rfl,D,I⟩:=map_cons ht;obtain ⟨u,r,rfl,h3,h4⟩:=map_cons I;obtain ⟨A,B,rfl,h5,h6⟩:=c8 h4;obtain ⟨w,r,rfl,h7,h8⟩:=map_cons h6;obtain ⟨q,r,rfl,h9,ly⟩:=map_cons h8;obtain ⟨B,C,rfl,oL,lS⟩:=c8 ly;obtain ⟨z,rfl,lT⟩:=iq lS;obtain ⟨D,cY⟩:=pd D;obtain ⟨h3,kz⟩:=dZ h3;obtain ⟨h7,kM⟩:=dZ h7;obtain ⟨h9,C8⟩:=dZ h9;obtain ⟨lT,zH⟩:=dZ lT
 have he:t::u::(A++w::q::(B++[z]))++rest=t::u::(A++w::(q::(B++z::rest))):=by simp
 have TE:=tG (rest:=B++z::rest) h9 C8;have hx:=W0 (e:=e) (d:=d+1) (rest:=q::(B++z::rest)) ho.1 ho.2.1 D cY h3 kz h5 h7 kM TE zeL;have hv:=vf (e:=e) (d:=d+1) (rest:=rest) ho.2.2 oL h9 C8 lT zH zeL;rw [he,S.fit]
 have iM:¬ (t.kind=2/\sign (t::u::(A++w::(q::(B++z::rest)))) 1=[61]):=fun h=>by
  have:=h.2;simp only [sign,List.getElem?_cons_succ,getElem?_cons_zero,df,h3,if_true,kz] at this
  revert this;decide
 have cE:∀ s:ae,s≠[]->sign (t::u::(A++w::(q::(B++z::rest)))) 0≠s:=fun s hs=>iP D hs
 refine pN fun hd=>?_
 cases hfa:pV (.at_ s a) (d+1) with
 | false =>
  refine ⟨fun hb=>zfE,fun _=>?_⟩;obtain ⟨pos,k1⟩:=hx.2 hfa;refine ⟨pos,r7 fun f=>?_⟩;refine zbh ?_;rw [ad iM,k1]
 | true =>
  obtain ⟨x,⟨_,k1,k2,k3,y,k4,k5⟩,k6⟩:=hx.1 hfa;refine ⟨fun hb=>?_,fun hb=>?_⟩
  ·obtain ⟨v,k7,k8⟩:=hv.1 ze0;refine ⟨one 8 t.at_ s [y,v],by show er _=_;rw [dO,aK,aK,k5,k7,S.tree];rfl,r7 fun f=>?_⟩;refine zbh ?_;rw [ad iM,k6];simp only;rw [ah ⟨k1,k2,TE⟩,k8];simp only;rw [k3,k4];rfl
  ·obtain ⟨pos,k7⟩:=hv.2 ze0;refine ⟨pos,r7 fun f=>?_⟩;refine zbh ?_;rw [ad iM,k6];simp only;rw [ah ⟨k1,k2,TE⟩,k7]
end
section
variable {e:Int} {d:Nat} {ts rest:List Tok} {Q:T->Prop} {b:Bool}
theorem S.head {s:S} (ho:s.ok=true) (ht:ts.map kf=s.tk):∃ t r,ts=t::r/\∀ rest,sign (t::rest) 0≠gF/\sign (t::rest) 0≠[125]:=by
 cases s with
 | set s a =>
  exact zbJ
 | put s a b =>
  exact zbJ
 | if1 c b =>
  exact zap
 | if2 c b b2 =>
  exact zap
 | while_ c b =>
  exact zap
 | ret a =>
  exact zap
 | var s a =>
  exact zap
 | do_ a =>
  simp only [S.ok] at ho;obtain ⟨k0,r0,hh,hf⟩:=E.head a ho;rw [S.tk,hh] at ht;obtain ⟨t,r,rfl,D,_⟩:=map_cons ht;refine ⟨t,r,rfl,fun rest=>?_⟩
  rcases zF (r:=rest) (by rw [D];exact hf) with h | h | h | h | h <;> (rw [h];decide)
def q7 (l:List S):Prop:=∀ (e:Int) (d:Nat) (acc:List T) (ts rest:List Tok) (u:Tok),S.bW l=true->ts.map kf=S.kY l->u.kind=3->u.s=[125] ->
 (S.fits l d=true->∃ ys,aK ys=S.trees l/\Eb e d acc (ts++u::rest) (.ok (acc++ys,rest)))/\(S.fits l d=false->∃ pos,Eb e d acc (ts++u::rest) (.error (9,pos)))
theorem KK:q7 []:=by
 intro e d acc ts rest u _ ht hu fK
 have:ts=[]:=by simpa [S.kY] using ht
 subst this;refine ⟨fun _=>⟨[],rfl,1,fun f hf=>?_⟩,fun h=>by simp [S.fits] at h⟩;obtain ⟨f,rfl⟩:∃ g,f=g+1:=⟨f - 1,by omega⟩;rw [rs.body,ah (by exact tG hu fK),fk];rfl
theorem Ja {a:S} {l:List S} (Ca:q8 a) (Cl:q7 l):q7 (a::l):=by
 intro e d acc ts rest u ho ht hu fK;simp only [S.bW,au] at ho;rw [S.kY] at ht;obtain ⟨A,B,rfl,h3,h4⟩:=c8 ht;obtain ⟨t,r,rfl,hh⟩:=S.head ho.1 h3
 have bZ:sign (B++u::rest) 0≠gF:=by
  cases l with
  | nil =>
   have:B=[]:=by simpa [S.kY] using h4
   subst this;rw [List.nil_append,tG hu fK];decide
  | cons a' l' =>
   simp only [S.bW,au] at ho;rw [S.kY] at h4;obtain ⟨A',B',rfl,h5,h6⟩:=c8 h4;obtain ⟨t',r',rfl,Tf⟩:=S.head ho.2.1 h5;exact (Tf _).1
 have hx:=Ca e d (t::r) (B++u::rest) ho.1 h3 bZ
 have he:t::r++B++u::rest=t::r++(B++u::rest):=by simp
 have hs:sign (t::r++(B++u::rest)) 0≠[125]:=(hh _).2;rw [he,S.fits]
 cases hfa:a.fit d with
 | false =>
  refine ⟨fun hb=>zfr,fun _=>?_⟩;obtain ⟨pos,f0,h0⟩:=hx.2 hfa;refine ⟨pos,f0+1,fun f hf=>?_⟩;obtain ⟨f,rfl⟩:∃ g,f=g+1:=⟨f - 1,by omega⟩;rw [rs.body,ad hs,h0 f ak]
 | true =>
  obtain ⟨ta,k1,f0,h0⟩:=hx.1 hfa;have hl:=Cl e d (acc++[ta]) B rest u ho.2 h4 hu fK;refine ⟨fun hb=>?_,fun hb=>?_⟩
  ·obtain ⟨ys,k3,cI,k4⟩:=hl.1 ze0;refine ⟨ta::ys,by rw [aK,k1,k3,S.trees],f0+cI+1,fun f hf=>?_⟩;obtain ⟨f,rfl⟩:∃ g,f=g+1:=⟨f - 1,by omega⟩;rw [rs.body,ad hs,h0 f ak];simp only;rw [k4 f ak,fF];rfl
  ·obtain ⟨pos,cI,k3⟩:=hl.2 ze0;refine ⟨pos,f0+cI+1,fun f hf=>?_⟩;obtain ⟨f,rfl⟩:∃ g,f=g+1:=⟨f - 1,by omega⟩;rw [rs.body,ad hs,h0 f ak];exact k3 f ak
theorem q7.blk {l:List S} (C:q7 l) {A:List Tok} {u w:Tok} (ho:S.bW l=true) (ht:A.map kf=S.kY l) (hu:u.kind=3) (fK:u.s=[123]) (hw:w.kind=3) (Df:w.s=[125]) :
  Sx e (.block d) (u::(A++w::rest)) rest (fun t=>er t=.mk ⟨14,0,0,[],[]⟩ (S.trees l)) (decide (d<=60)&&S.fits l (d+1)):=by
 have hb:=C e (d+1) [] A rest w ho ht hw Df
 by_cases hd:d<=60
 ·have:(decide (d<=60)&&S.fits l (d+1))=S.fits l (d+1):=by simp [hd]
  rw [this];refine ⟨fun h=>?_,fun h=>?_⟩
  ·obtain ⟨ys,k1,f0,h0⟩:=hb.1 h;refine ⟨one 14 u.at_ [] ys,by show er _=_;rw [dO,k1],f0+1,fun f hf=>?_⟩;obtain ⟨f,rfl⟩:∃ g,f=g+1:=⟨f - 1,by omega⟩;rw [rs,ad ak,qM hu fK];simp only;rw [h0 f ak];rfl
  ·obtain ⟨pos,f0,h0⟩:=hb.2 h;refine ⟨pos,f0+1,fun f hf=>?_⟩;obtain ⟨f,rfl⟩:∃ g,f=g+1:=⟨f - 1,by omega⟩;rw [rs,ad ak,qM hu fK];simp only;rw [h0 f ak]
 ·have:(decide (d<=60)&&S.fits l (d+1))=false:=by simp [hd]
  exact zcJ
theorem xf {j:rS} {x:Rd T} {iz:List Tok} {j':rS} {x':Rd T} (h:Es e j ts x) (hs:∀ f,rs e f j ts=x->rs e (f+1) j' iz=x'):Es e j' iz x':=by
 exact zbK
theorem Hx {j j2:rS} {x x2:Rd T} {iz vJ:List Tok} {j':rS} {x':Rd T} (h:Es e j ts x) (I:Es e j2 vJ x2) (hs:∀ f,rs e f j ts=x->rs e f j2 vJ=x2->rs e (f+1) j' iz=x'):Es e j' iz x':=by
 exact zbo
theorem NA (c:E) {l:List S} (C:q7 l):q8 (.if1 c l):=by
 intro e d ts rest ho ht jc;simp only [S.ok,au] at ho;rw [S.tk] at ht;obtain ⟨v,r,rfl,D,I⟩:=map_cons ht;obtain ⟨u,r,rfl,h3,h4⟩:=map_cons I;obtain ⟨A,r,rfl,h5,h6⟩:=c8 h4;obtain ⟨w,r,rfl,h7,h8⟩:=map_cons h6;obtain ⟨x,r,rfl,h9,ly⟩:=map_cons h8;obtain ⟨B,r,rfl,oL,lS⟩:=c8 ly;obtain ⟨y,rfl,lT⟩:=iq lS;obtain ⟨D,cY⟩:=dZ D;obtain ⟨h3,kz⟩:=dZ h3;obtain ⟨h7,kM⟩:=dZ h7;obtain ⟨h9,C8⟩:=dZ h9;obtain ⟨lT,zH⟩:=dZ lT
 have he:v::u::(A++w::x::(B++[y]))++rest=v::u::(A++w::(x::(B++y::rest))):=by simp
 have hi:=vf (e:=e) (d:=d+1) (rest:=x::(B++y::rest)) ho.1 h5 h3 kz h7 kM zeL;have hb:=C.blk (e:=e) (d:=d+1) (rest:=rest) ho.2 oL h9 C8 lT zH;have hv:=tG (rest:=u::(A++w::(x::(B++y::rest)))) D cY;rw [he,S.fit]
 refine pN fun hd=>?_
 cases hfa:pV c (d+1) with
 | false =>
  exact za3
 | true =>
  obtain ⟨tc,k1,k2⟩:=hi.1 hfa;rw [Bool.true_and];refine ⟨fun h=>?_,fun h=>?_⟩
  ·obtain ⟨tb,k3,k4⟩:=hb.1 h;refine ⟨one 9 v.at_ [] [tc,tb],by show er _=_;rw [dO,aK,aK,k1,k3,S.tree];rfl,xf k4 fun f k4=>?_⟩;refine zaE ?_;rw [k4];simp only;rw [ah hv,ad jc];rfl
  ·obtain ⟨pos,k3⟩:=hb.2 h;exact zew
theorem Jc (c:E) {l:List S} (C:q7 l):q8 (.while_ c l):=by
 intro e d ts rest ho ht jc;simp only [S.ok,au] at ho;rw [S.tk] at ht;obtain ⟨v,r,rfl,D,I⟩:=map_cons ht;obtain ⟨u,r,rfl,h3,h4⟩:=map_cons I;obtain ⟨A,r,rfl,h5,h6⟩:=c8 h4;obtain ⟨w,r,rfl,h7,h8⟩:=map_cons h6;obtain ⟨x,r,rfl,h9,ly⟩:=map_cons h8;obtain ⟨B,r,rfl,oL,lS⟩:=c8 ly;obtain ⟨y,rfl,lT⟩:=iq lS;obtain ⟨D,cY⟩:=dZ D;obtain ⟨h3,kz⟩:=dZ h3;obtain ⟨h7,kM⟩:=dZ h7;obtain ⟨h9,C8⟩:=dZ h9;obtain ⟨lT,zH⟩:=dZ lT
 have he:v::u::(A++w::x::(B++[y]))++rest=v::u::(A++w::(x::(B++y::rest))):=by simp
 have hi:=vf (e:=e) (d:=d+1) (rest:=x::(B++y::rest)) ho.1 h5 h3 kz h7 kM zeL;have hb:=C.blk (e:=e) (d:=d+1) (rest:=rest) ho.2 oL h9 C8 lT zH;have hv:=tG (rest:=u::(A++w::(x::(B++y::rest)))) D cY;rw [he,S.fit]
 refine pN fun hd=>?_
 cases hfa:pV c (d+1) with
 | false =>
  refine ⟨fun hb=>zfr,fun _=>?_⟩;obtain ⟨pos,k1⟩:=hi.2 hfa;refine ⟨pos,r7 fun f=>?_⟩;rw [rs,ad ak];simp only;rw [ad zfs,ah (.inr hv),tail_cons,k1]
 | true =>
  obtain ⟨tc,k1,k2⟩:=hi.1 hfa;rw [Bool.true_and];refine ⟨fun h=>?_,fun h=>?_⟩
  ·obtain ⟨tb,k3,k4⟩:=hb.1 h;refine ⟨one 10 v.at_ [] [tc,tb],by show er _=_;rw [dO,aK,aK,k1,k3,S.tree];rfl,xf k4 fun f k4=>?_⟩;rw [rs,ad ak];simp only;rw [ad zfs,ah (.inr hv),tail_cons,k2];simp only;rw [k4];simp only;rw [ad zfs];rfl
  ·obtain ⟨pos,k3⟩:=hb.2 h;refine ⟨pos,xf k3 fun f k3=>?_⟩;rw [rs,ad ak];simp only;rw [ad zfs,ah (.inr hv),tail_cons,k2];simp only;rw [k3]
theorem NB (c:E) {l l2:List S} (C:q7 l) (C2:q7 l2):q8 (.if2 c l l2):=by
 intro e d ts rest ho ht jc;simp only [S.ok,au] at ho;rw [S.tk] at ht;obtain ⟨v,r,rfl,D,I⟩:=map_cons ht;obtain ⟨u,r,rfl,h3,h4⟩:=map_cons I;obtain ⟨A,r,rfl,h5,h6⟩:=c8 h4;obtain ⟨w,r,rfl,h7,h8⟩:=map_cons h6;obtain ⟨x,r,rfl,h9,ly⟩:=map_cons h8;obtain ⟨B,r,rfl,oL,lS⟩:=c8 ly;obtain ⟨y,r,rfl,lT,AB⟩:=map_cons lS;obtain ⟨z,r,rfl,SP,Yw⟩:=map_cons AB;obtain ⟨x2,r,rfl,SQ,Yx⟩:=map_cons Yw;obtain ⟨B2,r,rfl,Yy,Yz⟩:=c8 Yx;obtain ⟨y2,rfl,SR⟩:=iq Yz;obtain ⟨D,cY⟩:=dZ D;obtain ⟨h3,kz⟩:=dZ h3;obtain ⟨h7,kM⟩:=dZ h7;obtain ⟨h9,C8⟩:=dZ h9;obtain ⟨lT,zH⟩:=dZ lT;obtain ⟨SP,W9⟩:=dZ SP;obtain ⟨SQ,Xa⟩:=dZ SQ;obtain ⟨SR,Xb⟩:=dZ SR
 have he:v::u::(A++w::x::(B++y::z::x2::(B2++[y2])))++rest=v::u::(A++w::(x::(B++y::(z::(x2::(B2++y2::rest)))))):=by simp
 have hi:=vf (e:=e) (d:=d+1) (rest:=x::(B++y::(z::(x2::(B2++y2::rest))))) ho.1 h5 h3 kz h7 kM zeL;have hb:=C.blk (e:=e) (d:=d+1) (rest:=z::(x2::(B2++y2::rest))) ho.2.1 oL h9 C8 lT zH;have dS:=C2.blk (e:=e) (d:=d+1) (rest:=rest) ho.2.2 Yy SQ Xa SR Xb;have hv:=tG (rest:=u::(A++w::(x::(B++y::(z::(x2::(B2++y2::rest))))))) D cY;have hz:=tG (rest:=x2::(B2++y2::rest)) SP W9;rw [he,S.fit]
 refine pN fun hd=>?_
 cases hfa:pV c (d+1) with
 | false =>
  exact za3
 | true =>
  obtain ⟨tc,k1,k2⟩:=hi.1 hfa;rw [Bool.true_and]
  cases hfb:(decide (d+1<=60)&&S.fits l (d+2)) with
  | false =>
   refine ⟨fun hb=>zfr,fun _=>?_⟩;obtain ⟨pos,k3⟩:=hb.2 hfb;exact zew
  | true =>
   obtain ⟨tb,k3,k4⟩:=hb.1 hfb;rw [Bool.true_and];refine ⟨fun h=>?_,fun h=>?_⟩
   ·obtain ⟨Z2,k5,k6⟩:=dS.1 h;refine ⟨one 9 v.at_ [] [tc,tb,Z2],by show er _=_;rw [dO,aK,aK,aK,k1,k3,k5,S.tree];rfl,Hx k4 k6 fun f k4 k6=>?_⟩;refine zaE ?_;rw [k4];simp only;rw [ah hv,ah hz,tail_cons,k6];rfl
   ·obtain ⟨pos,k5⟩:=dS.2 h;refine ⟨pos,Hx k4 k5 fun f k4 k5=>?_⟩;refine zaE ?_;rw [k4];simp only;rw [ah hv,ah hz,tail_cons,k5]
end
mutual
theorem coreS:∀ (s:S),q8 s
 | .set s a=>NG s a
 | .put s a b=>ND s a b
 | .if1 c b=>NA c (yc b)
 | .if2 c b b2=>NB c (yc b) (yc b2)
 | .while_ c b=>Jc c (yc b)
 | .ret a=>NF a
 | .do_ a=>QV a
 | .var s a=>NH s a
theorem yc:∀ (l:List S),q7 l
 | []=>KK
 | a::l=>Ja (coreS a) (yc l)
end
def Aq (l:List S):List K:=kS [123]::(S.kY l++[kS [125]])
def aZ (l:List S):T:=.mk ⟨14,0,0,[],[]⟩ (S.trees l)
def dc (l:List S) (d:Nat):Bool:=decide (d<=60)&&S.fits l (d+1)
theorem VD (e:Int):∀ f,(∀ j ts,rs e f j ts=.error be\/rs e (f+1) j ts=rs e f j ts)/\(∀ d acc ts,rs.body e f d acc ts=.error be\/rs.body e (f+1) d acc ts=rs.body e f d acc ts):=by
 intro f
 induction f with
 | zero=>exact ⟨fun j ts=>.inl zfy,fun d acc ts=>.inl (by simp [rs.body])⟩
 | succ f ih =>
  obtain ⟨i1,i2⟩:=ih;refine ⟨fun j ts=>?_,fun d acc ts=>?_⟩
  ·cases j with
   | block d =>
    rw [rs,rs];split
    ·exact zbd
    ·cases aI e [123] ts with
     | error x=>exact zbd
     | ok r =>
      simp only
      rcases i2 (d+1) [] r with h | h
      ·left;rw [h]
      ·rw [h];exact zbd
   | stmt d =>
    rw [rs,rs];split
    ·exact zbd
    ·simp only;split
     ·exact zbd
     ·split
      ·cases inner e (d+1) [40] [41] ts.tail with
       | error x=>exact zbd
       | ok y =>
        obtain ⟨c,r⟩:=y;simp only
        rcases i1 (.block (d+1)) r with h | h
        ·left;rw [h]
        ·rw [h]
         cases rs e f (.block (d+1)) r with
         | error x=>exact zbd
         | ok y =>
          obtain ⟨b,r⟩:=y;simp only;split
          ·split
           ·rcases i1 (.block (d+1)) r.tail with h | h
            ·left;rw [h]
            ·rw [h];exact zbd
           ·exact zbd
          ·exact zbd
      ·exact zbd
  ·rw [rs.body,rs.body];split
   ·exact zbd
   ·rcases i1 (.stmt d) ts with h | h
    ·left;rw [h]
    ·rw [h]
     cases rs e f (.stmt d) ts with
     | error x=>exact zbd
     | ok y=>exact i2 _ _ _
theorem RB {e:Int} {f f':Nat} {j:rS} {ts:List Tok} (h:rs e f j ts≠.error be) (hf:f<=f'):rs e f' j ts=rs e f j ts:=by
 obtain ⟨k,rfl⟩:=Nat.exists_eq_add_of_le hf;clear hf
 induction k with
 | zero=>rfl
 | succ k ih =>
  rcases (VD e (f+k)).1 j ts with D | D
  ·rw [ih] at D;exact absurd D h
  ·rw [<-iD,D,ih]
theorem zx {l:List S} {e:Int} {d:Nat} {ts rest:List Tok} (ho:S.bW l=true) (ht:ts.map kf=Aq l) :
  (dc l d=true->∃ t,er t=aZ l/\block e d (ts++rest)=.ok (t,rest))/\(dc l d=false->∃ pos,block e d (ts++rest)=.error (9,pos)):=by
 obtain ⟨u,r,rfl,D,I⟩:=map_cons ht;obtain ⟨A,r,rfl,h3,h4⟩:=c8 I;obtain ⟨w,rfl,h5⟩:=iq h4;obtain ⟨D,cY⟩:=dZ D;obtain ⟨h5,PK⟩:=dZ h5;have hb:=(yc l).blk (e:=e) (d:=d) (rest:=rest) ho h3 D cY h5 PK
 have he:u::(A++[w])++rest=u::(A++w::rest):=by simp
 rw [he]
 have key:∀ {x:Rd T},Es e (.block d) (u::(A++w::rest)) x->block e d (u::(A++w::rest))=x:=by
  rintro x ⟨f0,h0⟩;have bZ:rs e (mO (u::(A++w::rest))) (.block d) (u::(A++w::rest))≠.error be:=vS;have:=RB bZ (Nat.le_add_left _ f0);rw [h0 _ ak] at this;exact this.symm
 exact ⟨fun h=>by obtain ⟨t,k1,k2⟩:=hb.1 h;exact ⟨t,k1,key k2⟩,fun h=>by obtain ⟨pos,k1⟩:=hb.2 h;exact ⟨pos,key k1⟩⟩
open Go.Sp (cX bX cd own fa bB)
def yI (n:Int):Int:=if n % 4294967296 > 2147483647 then n % 4294967296 - 4294967296 else n % 4294967296
def eV (n:Nat):ae:=if h:n < 10 then [UInt8.ofNat (48+n)] else eV (n / 10)++[UInt8.ofNat (48+n % 10)]
termination_by n
decreasing_by omega
theorem En (n:Nat):(eV n).length<=n+1:=by
 induction n using Nat.strongRecOn with
 | _ n ih =>
 unfold eV
 by_cases h:n < 10
 ·rw [dif_pos h];simp
 ·rw [dif_neg h,aJ];have:=ih (n / 10) ak;simp;omega
def bp:List ae->ae
 | []=>[]
 | x::r=>x++r.flatMap fun y=>44::32::y
theorem wm {l:List ae} (h:l≠[]) (x:ae):bp (l++[x])=(bp l++[44,32])++x:=by
 cases l with
 | nil=>exact absurd rfl h
 | cons a l=>simp [bp,List.flatMap_append]
theorem sk (l:List ae) (k:Nat):(bp (l.take k)).length<=(bp l).length:=by
 cases l with
 | nil=>simp
 | cons a l =>
  cases k with
  | zero=>simp [bp]
  | succ k =>
   simp only [List.take_succ_cons,bp,aJ]
   have:∀ (l:List ae) (k:Nat),((l.take k).flatMap fun y=>(44:UInt8)::32::y).length<=(l.flatMap fun y=>(44:UInt8)::32::y).length:=by
    intro l
    induction l with
    | nil=>intro k;simp
    | cons b l ih=>intro k;cases k with
     | zero=>simp
     | succ k=>simp only [List.take_succ_cons,List.flatMap_cons,aJ];have:=ih k;omega
   have:=this l k;omega
def mj (lv k:Nat) (x:ae):ae:=if lv < k then (40::x)++[41] else x
mutual
def E.txt:E->ae
 | .num n=>eV n.toNat
 | .name s=>s
 | .at_ s a=>((s++[91])++a.txt)++[93]
 | .call s l=>((s++[40])++bp (E.cC l))++[41]
 | .un s a=>(s++[32])++mj a.lv 9 a.txt
 | .bin s a b=>(((mj a.lv (dz s) a.txt++[32])++s)++[32])++mj b.lv (dz s+1) b.txt
def E.cC:List E->List ae
 | []=>[]
 | a::l=>a.txt::E.cC l
end
mutual
def E.full:E->ae
 | .num n=>eV n.toNat
 | .name s=>s
 | .at_ s a=>((s++[91])++a.full)++[93]
 | .call s l=>((s++[40])++bp (E.ni l))++[41]
 | .un s a=>((40::s)++a.full)++[41]
 | .bin s a b=>(((((40::a.full)++[32])++s)++[32])++b.full)++[41]
def E.ni:List E->List ae
 | []=>[]
 | a::l=>a.full::E.ni l
end
theorem E.Po (l:List E):E.cC l=l.map E.txt:=by
 induction l with
 | nil=>rfl
 | cons a l ih=>rw [E.cC,ih];rfl
theorem E.Ld (l:List E):E.ni l=l.map E.full:=by
 induction l with
 | nil=>rfl
 | cons a l ih=>rw [E.ni,ih];rfl
def E.out (least:Bool) (a:E):ae:=if least then a.txt else a.full
mutual
def S.txt (x:E->ae):S->ae
 | .set s a=>((s++[32,61,32])++x a)++[59]
 | .put s a b=>((((s++[91])++x a)++[93,32,61,32])++x b)++[59]
 | .if1 c b=>(([105,102,32,40]++x c)++[41,32])++(S.cC x [123,32] b++[125])
 | .if2 c b b2=>(((([105,102,32,40]++x c)++[41,32])++(S.cC x [123,32] b++[125]))++[32,101,108,115,101,32])++(S.cC x [123,32] b2++[125])
 | .while_ c b=>(([119,104,105,108,101,32,40]++x c)++[41,32])++(S.cC x [123,32] b++[125])
 | .ret a=>([114,101,116,117,114,110,32]++x a)++[59]
 | .do_ a=>x a++[59]
 | .var s a=>((([118,97,114,32]++s)++[32,61,32])++x a)++[59]
def S.cC (x:E->ae):ae->List S->ae
 | acc,[]=>acc
 | acc,a::l=>S.cC x ((acc++a.txt x)++[32]) l
end
def dD (x:E->ae) (l:List S):ae:=S.cC x [123,32] l++[125]
theorem He (n:Nd) (l:List T):cX (.mk n l)=(bX l&&cd (.mk n l)):=by rw [cX]
theorem tR {l:List T} (h:bX l=true) {t:T} (ht:t∈l):cX t=true:=by
 induction l with
 | nil=>cases ht
 | cons a l ih =>
  rw [bX,au] at h
  rcases ew ht with rfl | ht
  ·exact h.1
  ·exact ih h.2 ht
theorem jG (n:Nd) (l:List T):er (.mk n l)=.mk ⟨n.kind,0,n.n,n.s,[]⟩ (aK l):=by rw [er]
theorem iH {l:List T} {m i:Nat} (h:bB m i l=true):∀ (j:Nat) t,l[j]?=some t->(if i+j < m then fa t.n.kind else t.n.kind==14)=true:=by
 induction l generalizing i with
 | nil=>intro j t h;simp at h
 | cons a l ih =>
  rw [bB,au] at h;intro j t hj
  cases j with
  | zero=>cases hj;exact h.1
  | succ j=>have:=ih h.2 j t ze1;rw [show i+(j+1)=i+1+j by omega];exact this
theorem Eu:∀ (l:List T),(∀ t∈l,∃ a:E,a.ok=true/\er t=a.tree)->∃ es:List E,E.bW es=true/\aK l=E.trees es
 | [],_=>⟨[],rfl,rfl⟩
 | t::l,h=>by
  obtain ⟨a,D,I⟩:=h t (List.mem_cons_self);obtain ⟨es,h3,h4⟩:=Eu l (fun t ht=>h t (di _ ht));exact ⟨a::es,by simp [E.bW,D,h3],by rw [aK,E.trees,I,h4]⟩
theorem WO:∀ (sz:Nat) (t:T),sizeOf t<=sz->cX t=true->fa t.n.kind=true->∃ a:E,a.ok=true/\er t=a.tree:=by
 intro sz
 induction sz with
 | zero=>intro t h;cases t;simp at h
 | succ sz ih =>
  intro t fJ ha hk;obtain ⟨n,l⟩:=t;rw [He,au] at ha;obtain ⟨ha,ho⟩:=ha
  have qa:∀ t∈l,fa t.n.kind=true->∃ a:E,a.ok=true/\er t=a.tree:=fun t ht hk=>by
   have:=List.sizeOf_lt_of_mem ht;exact ih t zfq (tR ha ht) hk
  obtain ⟨k,at_,v,s,ks⟩:=n
  have hk:(1:Int)<=k/\k<=6:=by
   simp only [fa,T.n,au] at hk;exact ⟨lJ hk.1,lJ hk.2⟩
  simp only [cd,own,T.n,T.kids] at ho
  obtain rfl | rfl | rfl | rfl | rfl | rfl:k=1\/k=2\/k=3\/k=4\/k=5\/k=6:=by omega
  ·simp at ho;obtain ⟨D,I,h3,h4,h5⟩:=ho;subst h4 h5;exact ⟨.num v,by simp only [E.ok,au];exact ⟨I,h3⟩,by rw [jG,E.tree];rfl⟩
  ·simp at ho;obtain ⟨D,I,h3,h4⟩:=ho;subst I h4;exact ⟨.name s,by simp [E.ok,h3],by rw [jG,E.tree];rfl⟩
  ·simp at ho;obtain ⟨D,I,h3,h4,h5⟩:=ho;subst I
   match l,h4 with
   | [t],_ =>
    have tZ:=iH h5 0 t rfl;obtain ⟨a,h6,h7⟩:=qa t zeL (by simpa using tZ);exact ⟨.at_ s a,by simp [E.ok,h3,h6],by rw [jG,E.tree,aK,h7];rfl⟩
  ·simp at ho;obtain ⟨D,I,h3,h5⟩:=ho;subst I
   obtain ⟨es,h6,h7⟩:=Eu l fun t ht=>qa t ht (by
    obtain ⟨j,hj⟩:=List.mem_iff_getElem?.1 ht;have ar:=(bh hj).1;have:=iH h5 j t hj
    rw [ah ak] at this;exact this)
   exact ⟨.call s es,by simp [E.ok,h3,h6],by rw [jG,E.tree,h7]⟩
  ·simp at ho;obtain ⟨D,I,h3,h4,h5⟩:=ho;subst I
   match l,h4 with
   | [t],_ =>
    have tZ:=iH h5 0 t rfl;obtain ⟨a,h6,h7⟩:=qa t zeL (by simpa using tZ);exact ⟨.un s a,by simp only [E.ok,h6,Bool.and_true,Bool.or_eq_true,beq_iff_eq];exact h3,by rw [jG,E.tree,aK,h7];rfl⟩
  ·simp at ho;obtain ⟨D,I,h3,h4,h5⟩:=ho;subst I
   match l,h4 with
   | [t,u],_ =>
    have tZ:=iH h5 0 t rfl;have Y8:=iH h5 1 u rfl;obtain ⟨a,h6,h7⟩:=qa t zeL (by simpa using tZ);obtain ⟨b,h8,h9⟩:=qa u zeL (by simpa using Y8);exact ⟨.bin s a b,by simp [E.ok,h3,h6,h8],by rw [jG,E.tree,aK,aK,h7,h9];rfl⟩
open Go.Sp (fZ)
theorem F2:∀ (l:List T),(∀ t∈l,∃ a:S,a.ok=true/\er t=a.tree)->∃ es:List S,S.bW es=true/\aK l=S.trees es
 | [],_=>⟨[],rfl,rfl⟩
 | t::l,h=>by
  obtain ⟨a,D,I⟩:=h t (List.mem_cons_self);obtain ⟨es,h3,h4⟩:=F2 l (fun t ht=>h t (di _ ht));exact ⟨a::es,by simp [S.bW,D,h3],by rw [aK,S.trees,I,h4]⟩
theorem Z4:∀ (sz:Nat) (t:T),sizeOf t<=sz->cX t=true->(fZ t.n.kind=true->∃ a:S,a.ok=true/\er t=a.tree)/\(t.n.kind=14->∃ l:List S,S.bW l=true/\er t=aZ l):=by
 intro sz
 induction sz with
 | zero=>intro t h;cases t;simp at h
 | succ sz ih =>
  intro t fJ ha;obtain ⟨n,l⟩:=t;rw [He,au] at ha;obtain ⟨ha,ho⟩:=ha
  have hex:∀ t∈l,fa t.n.kind=true->∃ a:E,a.ok=true/\er t=a.tree:=fun t ht hk=>WO _ t (aD _) (tR ha ht) hk
  have et:∀ t∈l,t.n.kind=14->∃ l:List S,S.bW l=true/\er t=aZ l:=fun t ht hk=>by
   have:=List.sizeOf_lt_of_mem ht;exact (ih t zfq (tR ha ht)).2 hk
  have dI:∀ t∈l,fZ t.n.kind=true->∃ a:S,a.ok=true/\er t=a.tree:=fun t ht hk=>by
   have:=List.sizeOf_lt_of_mem ht;exact (ih t zfq (tR ha ht)).1 hk
  obtain ⟨k,at_,v,s,ks⟩:=n;simp only [cd,own,T.n,T.kids] at ho;refine ⟨fun hk=>?_,fun hk=>?_⟩
  ·have hk:(7:Int)<=k/\k<=13:=by
    simp only [fZ,T.n,au] at hk;exact ⟨lJ hk.1,lJ hk.2⟩
   obtain rfl | rfl | rfl | rfl | rfl | rfl | rfl:k=7\/k=8\/k=9\/k=10\/k=11\/k=12\/k=13:=by omega
   ·simp at ho;obtain ⟨D,I,h3,h4,h5⟩:=ho;subst I
    match l,h4 with
    | [t],_ =>
     obtain ⟨a,h6,h7⟩:=hex t zeL zeU;exact ⟨.set s a,by simp [S.ok,h3,h6],by rw [jG,S.tree,aK,h7];rfl⟩
   ·simp at ho;obtain ⟨D,I,h3,h4,h5⟩:=ho;subst I
    match l,h4 with
    | [t,u],_ =>
     obtain ⟨a,h6,h7⟩:=hex t zeL zeU;obtain ⟨b,h8,h9⟩:=hex u zeL zfa;exact ⟨.put s a b,by simp [S.ok,h3,h6,h8],by rw [jG,S.tree,aK,aK,h7,h9];rfl⟩
   ·simp at ho;obtain ⟨D,I,h3,h4,h5⟩:=ho;subst I h3
    rcases h4 with h4 | h4
    ·match l,h4 with
     | [t,u],_ =>
      obtain ⟨a,h6,h7⟩:=hex t zeL zeU;obtain ⟨b,h8,h9⟩:=et u zeL zfa;exact ⟨.if1 a b,by simp [S.ok,h6,h8],by rw [jG,S.tree,aK,aK,h7,h9];rfl⟩
    ·match l,h4 with
     | [t,u,w],_ =>
      obtain ⟨a,h6,h7⟩:=hex t zeL zeU;obtain ⟨b,h8,h9⟩:=et u zeL zfa;obtain ⟨c,ly,oL⟩:=et w zeL (by simpa using iH h5 2 w rfl);exact ⟨.if2 a b c,by simp [S.ok,h6,h8,ly],by rw [jG,S.tree,aK,aK,aK,h7,h9,oL];rfl⟩
   ·simp at ho;obtain ⟨D,I,h3,h4,h5⟩:=ho;subst I h3
    match l,h4 with
    | [t,u],_ =>
     obtain ⟨a,h6,h7⟩:=hex t zeL zeU;obtain ⟨b,h8,h9⟩:=et u zeL zfa;exact ⟨.while_ a b,by simp [S.ok,h6,h8],by rw [jG,S.tree,aK,aK,h7,h9];rfl⟩
   ·simp at ho;obtain ⟨D,I,h3,h4,h5⟩:=ho;subst I h3
    match l,h4 with
    | [t],_ =>
     obtain ⟨a,h6,h7⟩:=hex t zeL zeU;exact ⟨.ret a,by simp [S.ok,h6],by rw [jG,S.tree,aK,h7];rfl⟩
   ·simp at ho;obtain ⟨D,I,h3,h4,h5⟩:=ho;subst I h3
    match l,h4 with
    | [t],_ =>
     obtain ⟨a,h6,h7⟩:=hex t zeL zeU;exact ⟨.do_ a,by simp [S.ok,h6],by rw [jG,S.tree,aK,h7];rfl⟩
   ·simp at ho;obtain ⟨D,I,h3,h4,h5⟩:=ho;subst I
    match l,h4 with
    | [t],_ =>
     obtain ⟨a,h6,h7⟩:=hex t zeL zeU;exact ⟨.var s a,by simp [S.ok,h3,h6],by rw [jG,S.tree,aK,h7];rfl⟩
  ·simp only [T.n] at hk;subst hk;simp at ho;obtain ⟨D,I,h3,h4⟩:=ho;subst I h4
   obtain ⟨es,h5,h6⟩:=F2 l fun t ht=>dI t ht (h3 t ht)
   exact ⟨es,h5,by rw [jG,aZ,h6]⟩
theorem Z3 {t:T} (h:cX t=true) (hk:t.n.kind=14):∃ l:List S,S.bW l=true/\er t=aZ l:=(Z4 _ t (aD _) h).2 hk
mutual
def wt:T->Nat
 | .mk n l=>30+n.s.length+dJ l
def dJ:List T->Nat
 | []=>0
 | t::l=>wt t+dJ l
end
mutual
theorem DV:∀ t:T,wt (er t)=wt t
 | .mk n l=>by rw [er,wt,wt,IM l]
theorem IM:∀ l:List T,dJ (aK l)=dJ l
 | []=>rfl
 | t::l=>by rw [aK,dJ,dJ,DV t,IM l]
end
theorem BR:∀ (k n:Nat),n < 10 ^ (k+1)->(eV n).length<=k+1:=by
 intro k
 induction k with
 | zero=>intro n h;unfold eV;rw [dif_pos ak];simp
 | succ k ih =>
  intro n h;unfold eV;split
  ·simp
  ·rw [aJ];have:=ih (n / 10) (by rw [Nat.pow_succ] at h;omega);simp;omega
theorem su (lv k:Nat) (x:ae):(mj lv k x).length<=x.length+2:=by unfold mj;split <;> simp
mutual
theorem E.len:∀ a:E,a.ok=true->a.txt.length+4<=wt a.tree/\a.full.length+4<=wt a.tree
 | .num n,h=>by
  simp only [E.ok,au] at h;have D:=lJ h.1;have I:=lJ h.2;have:=BR 9 n.toNat ak;rw [E.txt,E.full,E.tree,wt];simp only [length_nil,dJ];omega
 | .name s,h=>by rw [E.txt,E.full,E.tree,wt];simp only [dJ];omega
 | .at_ s a,h=>by
  simp only [E.ok,au] at h;have:=E.len a h.2;exact zdY
 | .call s l,h=>by
  simp only [E.ok,au] at h;have:=E.lens l h.2;rw [E.txt,E.full,E.tree,wt];exact zab
 | .un s a,h=>by
  simp only [E.ok,au] at h;have:=E.len a h.2;have:=su a.lv 9 a.txt;exact zdY
 | .bin s a b,h=>by
  simp only [E.ok,au] at h;have:=E.len a h.1.2;have:=E.len b h.2;have:=su a.lv (dz s) a.txt;have:=su b.lv (dz s+1) b.txt;exact zdY
theorem E.lens:∀ l:List E,E.bW l=true->(bp (E.cC l)).length<=dJ (E.trees l)/\(bp (E.ni l)).length<=dJ (E.trees l)
 | [],_=>⟨aY _,aY _⟩
 | a::l,h=>by
  simp only [E.bW,au] at h;have D:=E.len a h.1;have I:=E.lens l h.2;rw [E.cC,E.ni,E.trees,dJ]
  have key:∀ (x:ae) (l:List ae),(bp (x::l)).length<=x.length+2+(bp l).length:=by
   intro x l
   cases l with
   | nil=>simp [bp]
   | cons y l=>simp [bp];omega
  have:=key a.txt (E.cC l);have:=key a.full (E.ni l);omega
end
mutual
theorem S.len (x:E->ae) (hx:∀ a:E,a.ok=true->(x a).length+4<=wt a.tree):∀ s:S,s.ok=true->(s.txt x).length+4<=wt s.tree
 | .set s a,h=>by
  simp only [S.ok,au] at h;have:=hx a h.2;exact zcu
 | .put s a b,h=>by
  simp only [S.ok,au] at h;have:=hx a h.2.1;have:=hx b h.2.2;exact zcu
 | .if1 c b,h=>by
  exact zbv
 | .if2 c b b2,h=>by
  simp only [S.ok,au] at h;have:=hx c h.1;have:=S.lens x hx b h.2.1 [123,32];have:=S.lens x hx b2 h.2.2 [123,32];rw [S.txt,S.tree,wt];simp only [dJ,wt,aJ,length_cons,length_nil] at *;omega
 | .while_ c b,h=>by
  exact zbv
 | .ret a,h=>by
  simp only [S.ok] at h;have:=hx a h;exact zcu
 | .do_ a,h=>by
  simp only [S.ok] at h;have:=hx a h;exact zcu
 | .var s a,h=>by
  simp only [S.ok,au] at h;have:=hx a h.2;exact zcu
theorem S.lens (x:E->ae) (hx:∀ a:E,a.ok=true->(x a).length+4<=wt a.tree):∀ l:List S,S.bW l=true->∀ acc:ae,(S.cC x acc l).length<=acc.length+dJ (S.trees l)
 | [],_,acc=>by rw [S.cC];omega
 | a::l,h,acc=>by
  simp only [S.bW,au] at h;have D:=S.len x hx a h.1;have I:=S.lens x hx l h.2 ((acc++a.txt x)++[32]);rw [S.cC,S.trees,dJ];simp only [aJ,length_cons,length_nil] at I;omega
end
theorem sr (x:E->ae) (hx:∀ a:E,a.ok=true->(x a).length+4<=wt a.tree) {l:List S} (h:S.bW l=true):(dD x l).length<=wt (aZ l):=by
 have:=S.lens x hx l h [123,32];unfold dD aZ;rw [wt];simp only [aJ,length_cons,length_nil] at *;omega
end Go.Xp
namespace Go.Im
open Go.Xp Go.Sp
def qA (g:Nat->Option (T × Nat)):List Int->Nat->List T->Option (List T × Nat)
 | [],next,acc=>some (acc,next)
 | k::r,next,acc=>if k=(next:Int) then match g next with
  | none=>none
  | some (t,e)=>qA g r e (acc++[t])
  else none
def nU (nodes:List Nd):Nat->Nat->Option (T × Nat)
 | 0,_=>none
 | f+1,a=>match nodes[a]? with
  | none=>none
  | some n=>match qA (nU nodes f) n.kids (a+1) [] with
   | none=>none
   | some (l,e)=>if n.at_ < 0 then none else some (.mk n l,e)
def tr (nodes:List Nd) (a:Nat):Option (T × Nat):=nU nodes (nodes.length+1) a
theorem F8 {nodes:List Nd} {g:Nat->Option (T × Nat)} (hg:∀ a t e,g a=some (t,e)->a < e/\e<=nodes.length/\e=a+aQ t/\(nodes.take e).drop a=fQ a t) :
  ∀ (ks:List Int) (next:Nat) (acc l:List T) (e:Nat),next<=nodes.length->qA g ks next acc=some (l,e)->∃ l',l=acc++l'/\e=next+aB l'/\e<=nodes.length/\ks=bj next l'/\(nodes.take e).drop next=cD next l'
 | [],next,acc,l,e,hn,h=>by
  rw [qA] at h;cases h;exact ⟨[],by simp,by simp [aB],hn,rfl,by rw [cD];exact gk (by rw [jw,lH];omega)⟩
 | k::r,next,acc,l,e,hn,h=>by
  rw [qA] at h;split at h
  ·rename_i hk
   cases hq:g next with
   | none=>rw [hq] at h;cases h
   | some x =>
    obtain ⟨t,e1⟩:=x;rw [hq] at h;simp only at h;obtain ⟨a1,a2,a3,a4⟩:=hg _ _ _ hq;obtain ⟨l',b1,b2,b3,b4,b5⟩:=F8 hg r e1 (acc++[t]) l e a2 h;refine ⟨t::l',by rw [b1];simp,by rw [aB];omega,b3,by rw [bj,<-a3,<-b4,hk],?_⟩;rw [cD,<-a3,<-a4,<-b5]
    have he:e1<=e:=by omega
    have D:(nodes.take e).take e1=nodes.take e1:=by rw [List.take_take,Nat.min_eq_left he]
    have I:(nodes.take e).drop next=((nodes.take e).take e1).drop next++(nodes.take e).drop e1:=by
     have h3:nodes.take e=(nodes.take e).take e1++(nodes.take e).drop e1:=(List.take_append_drop _ _).symm
     have h4:((nodes.take e).take e1).length=e1:=by rw [lH,lH];omega
     rw [h3,List.drop_append_of_le_length (by rw [h4];omega)];rw [<-h3]
    rw [I,D]
  ·cases h
theorem Ac {nodes:List Nd}:∀ (f a:Nat) (t:T) (e:Nat),nU nodes f a=some (t,e)->a < e/\e<=nodes.length/\e=a+aQ t/\(nodes.take e).drop a=fQ a t
 | 0,a,t,e,h=>by cases h
 | f+1,a,t,e,h=>by
  rw [nU] at h
  cases hn:nodes[a]? with
  | none=>exact zde
  | some n =>
   rw [hn] at h;simp only at h;have ar:=(bh hn).1
   cases hk:qA (nU nodes f) n.kids (a+1) [] with
   | none=>rw [hk] at h;cases h
   | some x =>
    obtain ⟨l,e1⟩:=x;rw [hk] at h;simp only at h;split at h
    ·cases h
    ·cases h;obtain ⟨l',b1,b2,b3,b4,b5⟩:=F8 (Ac f) n.kids (a+1) [] l e ar hk
     have:l'=l:=by rw [b1];rfl
     subst this;refine ⟨by omega,b3,by rw [aQ];omega,?_⟩;rw [fQ,<-b4,<-b5]
     have D:(nodes.take e)[a]?=some n:=by rw [List.getElem?_take,ah ak];exact hn
     obtain ⟨I,h3⟩:=bh D;rw [o8 I,h3]
def lh (nodes:List Nd):List Fn->Nat->List T->Option (List T × Nat)
 | [],next,acc=>some (acc,next)
 | f::r,next,acc=>match tr nodes next with
  | none=>none
  | some (t,e)=>if f.body=(next:Int) then lh nodes r e (acc++[t]) else none
def dp (k:Int) (n:Nat):Bool :=
 if k=1\/k=2 then ((n:Int)==0)
 else if k=4\/k=14 then true
 else if k=3\/k=5\/k=7\/k=11\/k=12\/k=13 then ((n:Int)==1)
 else if k=6\/k=8\/k=10 then ((n:Int)==2)
 else if k=9 then ((n:Int)==2) || ((n:Int)==3)
 else false
mutual
def gq:T->Bool
 | .mk n l=>dp n.kind l.length&&zP l
def zP:List T->Bool
 | []=>true
 | t::r=>gq t&&zP r
end
theorem vh (t:T):gq t=(dp t.n.kind t.kids.length&&zP t.kids):=by cases t;rw [gq];rfl
theorem qJ (l:List T):zP l=l.all gq:=by
 induction l with
 | nil=>rfl
 | cons t l ih=>rw [zP,ih];rfl
end Go.Im
