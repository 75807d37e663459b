/- Part 4 of proofs that are told in their last texts. -/
import Derived.WalkKit
import Derived.KernelRfl
import Derived.Orders
set_option linter.unusedVariables false
set_option linter.unusedSimpArgs false
namespace Go.Xw
open Go.RowKit
def nth:List Value→Nat→Value
 | [],_=>undef
 | v::_,0=>v
 | _::l,n+1=>nth l n
def upd:List Value→Nat→Value→List Value
 | [],_,_=>[]
 | _::l,0,v=>v::l
 | x::l,n+1,v=>x::upd l n v
def ev (l:List Value):Operand→Value
 | .tmp t=>nth l t
 | .const v=>v
 | .global g=>.pointer (some ⟨g,0,none⟩)
 | .func f=>.func (.func f) #[] #[]
def put (l:List Value) (d:Option Tmp) (v:Value):List Value :=
 match d with | some d=>upd l d v | none=>l
theorem nth_eq (l:List Value) (t:Nat):l.toArray.getD t undef=nth l t:=by
 induction l generalizing t with
 | nil=>simp [nth]
 | cons x l ih =>
  cases t with
  | zero=>simp [nth]
  | succ t=>rw [nth,←ih];simp [Array.getD]
theorem upd_eq (l:List Value) (t:Nat) (v:Value):l.toArray.setIfInBounds t v=(upd l t v).toArray:=by
 have h:∀ (l:List Value) t,upd l t v=l.set t v:=by
  intro l
  induction l with
  | nil=>intro t;rfl
  | cons x l ih=>intro t;cases t with | zero=>rfl | succ t=>simp [upd,ih]
 rw [h];simp
def act (l:List Value):Act:=⟨l.toArray,[]⟩
theorem act_eval (l:List Value):(act l).eval=ev l:=by
 funext x;cases x <;> first | rfl | exact nth_eq l _
theorem act_put (l:List Value) (d:Option Tmp) (v:Value):(act l).put d v=act (put l d v):=by
 cases d with
 | none=>rfl
 | some d=>simp only [act,Act.put,put];rw [upd_eq]
abbrev Post:=Exit→List Value→World→Prop
def lift (Q:Post):Exit→Act→World→Prop:=fun e a w=>∃ l,a=act l∧Q e l w
def W (P:Program) (c:Code) (Q:Post) (l:List Value) (w:World):Prop:=c.wp P (lift Q) (act l) w
def WL (P:Program) (ops:Array Oper) (Q:Post) (rest:List Oper) (l:List Value) (w:World):Prop :=
 wpList P ops (lift Q) rest (act l) w
def thn (next:List Value→World→Prop) (Q:Post):Post
 | .normal,l,w=>next l w
 | e,l,w=>Q e l w
def inb (id:Nat) (Q:Post):Post
 | .exit id',l,w=>if id'=id then Q .normal l w else Q (.exit id') l w
 | e,l,w=>Q e l w
section
variable {P:Program} {Q:Post} {l:List Value} {w:World} {ops:Array Oper} {rest:List Oper}
theorem W.seq {x y:Code} (h:W P x (thn (W P y Q) Q) l w):W P (.seq x y) Q l w:=by
 refine wp_seq (wp_mono h ?_)
 rintro e a w ⟨l,rfl,hq⟩
 cases e <;> first | exact hq | exact ⟨l,rfl,hq⟩
theorem W.skip (h:Q .normal l w):W P .skip Q l w:=wp_skip ⟨l,rfl,h⟩
theorem W.exit {n:Nat} (h:Q (.exit n) l w):W P (.exit n) Q l w:=wp_exit ⟨l,rfl,h⟩
theorem W.ret (h:Q .ret l w):W P .ret Q l w:=wp_ret ⟨l,rfl,h⟩
theorem W.block {id:Nat} {c:Code} (h:W P c (inb id Q) l w):W P (.block id c) Q l w:=by
 refine wp_block (wp_mono h ?_)
 rintro e a w ⟨l,rfl,hq⟩
 cases e with
 | exit id' =>
  simp only [inb] at hq
  simp only [Exit.inBlock]
  split <;> rename_i hh
  ·rw [if_pos hh] at hq;exact ⟨l,rfl,hq⟩
  ·rw [if_neg hh] at hq;exact ⟨l,rfl,hq⟩
 | normal=>exact ⟨l,rfl,hq⟩
 | goto _=>exact ⟨l,rfl,hq⟩
 | ret=>exact ⟨l,rfl,hq⟩
 | panic _=>exact ⟨l,rfl,hq⟩
 | outgrown=>exact ⟨l,rfl,hq⟩
theorem W.cond {c:Operand} {x y:Code} {t:Bool} (hc:ev l c=.bool t) (ht:t=true→W P x Q l w) (hf:t=false→W P y Q l w):W P (.cond c x y) Q l w:=by
 refine wp_cond_split (t:=t) (by rw [act_eval];exact hc) ht hf
theorem W.mono {c:Code} {Q':Post} (h:W P c Q l w) (hq:∀ e l w,Q e l w→Q' e l w):W P c Q' l w :=
 wp_mono h fun _ _ _ ⟨l,ha,q⟩=>⟨l,ha,hq _ _ _ q⟩
theorem W.loop {c:Code} {α:Type} (μ:α→Nat) (I:α→List Value→World→Prop) (x:α) (h0:I x l w)
  (round:∀ x l w,I x l w→W P c (thn (fun l' w'=>∃ y,I y l' w'∧μ y < μ x) Q) l w):W P (.loop c) Q l w:=by
 have key:∀ n x l w,μ x=n→I x l w→∀ (b:Frame) (k:List Item) (cs:List Frame),
   ∃ e a' w',lift Q e a' w'∧Arrives P (lone (b.at (act l) (.code c::.inLoop c::k)) cs w) b k cs e a' w':=by
  intro n
  induction n using Nat.strongRecOn with
  | _ n ih =>
   intro x l w hn hI b k cs
   obtain ⟨e,a₁,w₁,hq,harr⟩:=round x l w hI b (.inLoop c::k) cs
   obtain ⟨l₁,rfl,hq⟩:=hq
   cases e with
   | normal =>
    obtain ⟨y,hI₁,hlt⟩:=hq
    obtain ⟨e₂,a₂,w₂,hq₂,harr₂⟩:=ih (μ y) (hn ▸ hlt) y l₁ w₁ rfl hI₁ b k cs
    exact ⟨e₂,a₂,w₂,hq₂,.of_steps (Steps.trans harr (.one step_inLoop)) harr₂⟩
   | exit id=>exact ⟨_,_,w₁,⟨l₁,rfl,hq⟩,.pass (x:=.inLoop c) rfl (fun _ _=>.inl (by simp)) harr⟩
   | goto _=>exact ⟨_,_,w₁,⟨l₁,rfl,hq⟩,.pass (x:=.inLoop c) rfl (fun _ _=>.inl (by simp)) harr⟩
   | ret=>exact ⟨_,_,w₁,⟨l₁,rfl,hq⟩,.pass (x:=.inLoop c) rfl (fun _ _=>.inl (by simp)) harr⟩
   | panic ch=>exact ⟨_,_,w₁,⟨l₁,rfl,hq⟩,.pass (x:=.inLoop c) rfl (fun _ _=>.inl (by simp)) harr⟩
   | outgrown=>exact ⟨_,_,w₁,⟨l₁,rfl,hq⟩,.pass (x:=.inLoop c) rfl (fun _ _=>.inl (by simp)) harr⟩
 intro b k cs
 obtain ⟨e,a',w',hq,harr⟩:=key _ x l w rfl h0 b k cs
 exact ⟨e,a',w',hq,.of_steps (.one step_loop) harr⟩
theorem W.region {id:Nat} {ol:List Oper} (h:WL P ol.toArray Q ol l w):W P (.region id ol.toArray false) Q l w :=
 wp_region_lit h
theorem WL.nil (h:Q .normal l w):WL P ops Q [] l w:=⟨l,rfl,h⟩
theorem WL.val {d:Option Tmp} {op:Op} {ty:TypeId} {pos:String} {af:Array Edge} {v:Value} {w':World}
  (hr:(execOp (ev l) ⟨d,op,ty,pos,af,none⟩).run P w=.ok (.value v) w')
  (h:WL P ops Q rest (put l d v) w'):WL P ops Q (⟨d,op,ty,pos,af,none⟩::rest) l w:=by
 refine wpList_plain rfl fun K hK=>?_
 simp only [Oper.wp,act_eval,hr,Oper.upon_value,act_put]
 exact hK _ _ h
theorem WL.skp {d:Option Tmp} {op:Op} {ty:TypeId} {pos:String} {af:Array Edge} {w':World}
  (hr:(execOp (ev l) ⟨d,op,ty,pos,af,none⟩).run P w=.ok .skip w')
  (h:WL P ops Q rest (put l d undef) w'):WL P ops Q (⟨d,op,ty,pos,af,none⟩::rest) l w:=by
 refine wpList_plain rfl fun K hK=>?_
 simp only [Oper.wp,act_eval,hr,Oper.upon_skip,act_put]
 exact hK _ _ h
theorem WL.gt {d:Option Tmp} {op:Op} {ty:TypeId} {pos:String} {af:Array Edge} {g:Option (Nat × Bool)}
  (hw:Region.wanted ⟨d,op,ty,pos,af,g⟩ (yielded ops (act l).tmps)=true)
  (h:WL P ops Q (⟨d,op,ty,pos,af,none⟩::rest) l w):WL P ops Q (⟨d,op,ty,pos,af,g⟩::rest) l w:=by
 unfold WL wpList at *
 rw [if_pos hw]
 rw [if_pos (by rfl)] at h
 exact h
theorem WL.gf {d:Option Tmp} {op:Op} {ty:TypeId} {pos:String} {af:Array Edge} {g:Option (Nat × Bool)}
  (hw:Region.wanted ⟨d,op,ty,pos,af,g⟩ (yielded ops (act l).tmps)=false)
  (h:WL P ops Q rest (put l d undef) w):WL P ops Q (⟨d,op,ty,pos,af,g⟩::rest) l w:=by
 unfold WL wpList
 rw [if_neg (by rw [hw];decide)]
 show wpList P ops (lift Q) rest ((act l).put d undef) w
 rw [act_put]
 exact h
end
section
variable {next:List Value→World→Prop} {Q:Post} {l:List Value} {w:World} {id id':Nat}
end
end Go.Xw
namespace Go.Xw
open Go.RowKit
structure Ext (S:Nat→Prop) (w w':World):Prop where
 os:w'.os=w.os
 tape:w'.tape=w.tape
 output:w'.output=w.output
 size:w.heap.size≤w'.heap.size
 block:∀ k,k < w.heap.size→¬ S k→w'.heap[k]?=w.heap[k]?
abbrev none':Nat→Prop:=fun _=>False
theorem Ext.refl {S:Nat→Prop} (w:World):Ext S w w:=⟨rfl,rfl,rfl,Nat.le_refl _,fun _ _ _=>rfl⟩
theorem Ext.trans {S:Nat→Prop} {a b c:World} (h:Ext S a b) (k:Ext S b c):Ext S a c :=
 ⟨k.os.trans h.os,k.tape.trans h.tape,k.output.trans h.output,Nat.le_trans h.size k.size,
  fun i hi hs=>(k.block i (Nat.lt_of_lt_of_le hi h.size) hs).trans (h.block i hi hs)⟩
theorem Ext.step {S0 S:Nat→Prop} {a b c:World} (h:Ext S0 a b) (k:Ext S b c) (hs:∀ j,S j→a.heap.size≤j∨S0 j):Ext S0 a c :=
 ⟨k.os.trans h.os,k.tape.trans h.tape,k.output.trans h.output,Nat.le_trans h.size k.size,
  fun i hi hn=>(k.block i (Nat.lt_of_lt_of_le hi h.size) fun hsi=>by
   rcases hs i hsi with h1 | h1
   ·omega
   ·exact hn h1).trans (h.block i hi hn)⟩
theorem Ext.mono {S S':Nat→Prop} {a b:World} (h:Ext S a b) (hs:∀ k,k < a.heap.size→S k→S' k):Ext S' a b :=
 ⟨h.os,h.tape,h.output,h.size,fun i hi hn=>h.block i hi fun x=>hn (hs i hi x)⟩
theorem Ext.blk {S:Nat→Prop} {a b:World} (h:Ext S a b) {k:Nat} {o:Obj} (hv:a.heap[k]?=some o) (hs:¬ S k):b.heap[k]?=some o:=by
 rw [h.block k (by have:=(Array.getElem?_eq_some_iff.1 hv).1;exact this) hs,hv]
theorem lt_of_blk {w:World} {k:Nat} {o:Obj} (hv:w.heap[k]?=some o):k < w.heap.size:=(Array.getElem?_eq_some_iff.1 hv).1
theorem at_of_blk {w:World} {b o:Nat} {cs:Array Value} {E:TypeId} {fz:Nat × Nat} {v:Value} (hb:w.heap[b]?=some (.cells cs E fz)) (hv:cs[o]?=some v):w.cell? ⟨b,o,none⟩=some v:=by
 rw [cell_of_row w b o cs E fz hb,hv]
theorem Ext.below {a b:World} (h:Ext none' a b):Below a.heap.size a b:=⟨h.os,h.tape,h.output,h.size,fun k hk=>h.block k hk (fun x=>x)⟩
structure New (w w':World) (b:Nat) (o:Obj):Prop where
 fresh:b=w.heap.size
 size:w'.heap.size=b+1
 blk:w'.heap[b]?=some o
 ext:Ext none' w w'
theorem New.of (w:World) (o:Obj):New w (w.alloc o) w.heap.size o :=
 ⟨rfl,by simp,heap_alloc_new w o,⟨rfl,rfl,rfl,by simp,fun k hk _=>Below.heap_alloc _ _ _ hk⟩⟩
def aggDesc:TypeDesc→Bool
 | .struct _=>true
 | .array _ _=>true
 | _=>false
class Ty (P:Program) (t:TypeId) (agg:outParam Bool) (k:outParam Nat):Prop where
 und:(P.underlying t).map aggDesc=some agg
 siz:(P.info? t).map (·.size)=some k
class SlT (P:Program) (t:TypeId) (e:outParam TypeId) (k:outParam Nat):Prop where
 und:P.underlying t=some (.slice e)
 siz:(P.info? e).map (·.size)=some k
class StrT (P:Program) (t:TypeId):Prop where
 und:P.underlying t=some .string
def fldIs (P:Program) (s:TypeId) (i:Nat) (off:Nat) (k:Nat) (agg:Bool):Bool :=
 match P.underlying s with
 | some (.struct fs)=>match fs[i]? with
  | some f=>f.offset==off&&(match P.info? f.type with | some x=>x.size==k | none=>false)&&k != 0&&((P.underlying f.type).map aggDesc==some agg)
  | none=>false
 | _=>false
class Fld (P:Program) (s:TypeId) (i:Nat) (off:outParam Nat) (k:outParam Nat) (agg:outParam Bool):Prop where
 is:fldIs P s i off k agg=true
section
variable {P:Program} {w:World}
theorem run_isAgg {t:TypeId} {agg:Bool} {k:Nat} [h:Ty P t agg k]:(isAgg t).run P w=.ok agg w:=by
 obtain ⟨hu,_⟩:=h
 cases hd:P.underlying t with
 | none=>simp [hd] at hu
 | some d =>
  rw [hd] at hu
  unfold isAgg
  rw [Sem.run_bind,run_underlying hd w]
  cases d <;> simp_all [aggDesc]
theorem run_sizeOf' {t:TypeId} {k:Nat} (h:(P.info? t).map (·.size)=some k):(sizeOf t).run P w=.ok k w:=by
 cases hq:P.info? t with
 | none=>simp [hq] at h
 | some i=>simp [hq] at h;simp [sizeOf,typeInfo,hq,h]
theorem add_mk (b o n:Nat):(⟨b,o,none⟩:Addr).add n=⟨b,o+n,none⟩:=by
 unfold Addr.add;split
 ·rename_i h;subst h;rfl
 ·rfl
theorem run_loadVar1 {t:TypeId} [h:Ty P t false 1] {a:Addr} {v:Value} (hv:w.cell? a=some v):(loadVar t a).run P w=.ok v w:=by
 unfold loadVar
 rw [Sem.run_bind,run_isAgg (agg:=false) (k:=1)]
 simp [hv]
theorem run_loadVarN {t:TypeId} {k:Nat} [h:Ty P t true k] {b o:Nat} {vs:List Value} (hl:vs.length=k) (hv:∀ j v,vs[j]?=some v→w.cell? ⟨b,o+j,none⟩=some v) :
  (loadVar t ⟨b,o,none⟩).run P w=.ok (.agg vs.toArray) w:=by
 unfold loadVar
 rw [Sem.run_bind,run_isAgg (agg:=true) (k:=k)]
 have hc:(loadCells ⟨b,o,none⟩ k).run P w=.ok vs.toArray w:=by
  rw [←hl]
  exact run_loadCells_list w _ vs fun j v hj=>by rw [add_mk];exact hv j v hj
 simp [run_sizeOf' h.siz,hc]
end
def Runs (P:Program) (l:List Value) (w:World) (op:Op) (v:Value):Prop :=
 ∀ (d:Option Tmp) (ty:TypeId) (pos:String) (af:Array Edge),(execOp (ev l) ⟨d,op,ty,pos,af,none⟩).run P w=.ok (.value v) w
theorem WL.v {P:Program} {Q:Post} {l:List Value} {w:World} {ops:Array Oper} {rest:List Oper} {d:Option Tmp} {op:Op} {ty:TypeId} {pos:String} {af:Array Edge} {v:Value}
  (hr:Runs P l w op v) (h:WL P ops Q rest (put l d v) w):WL P ops Q (⟨d,op,ty,pos,af,none⟩::rest) l w:=WL.val (hr d ty pos af) h
section
variable {P:Program} {l:List Value} {w:World}
theorem R.mv {x:Operand}:Runs P l w (.move x) ((ev l x)):=fun d ty pos af=>by simp [execOp]
theorem R.asg {x:Operand}:Runs P l w (.assign x) ((ev l x)):=fun d ty pos af=>by simp [execOp]
theorem R.pick {c a b:Operand} {t:Bool} (hc:ev l c=.bool t):Runs P l w (.pick c a b) ((if t then ev l a else ev l b)):=fun d ty pos af=>by simp [execOp,hc,asBool]
theorem R.nilck {x:Operand} {a:Addr} (hx:ev l x=.pointer (some a)):Runs P l w (.nilCheck x) ((.pointer (some a))):=fun d ty pos af=>by simp [execOp,hx]
theorem R.extract {x:Operand} {i:Nat} {vs:Array Value} {v:Value} (hx:ev l x=.tuple vs) (hv:vs[i]?=some v):Runs P l w (.extract x i) (v):=fun d ty pos af=>by simp [execOp,hx,Instr.extract,hv]
theorem R.mkfn {fn:Fn} {first cap:Array Operand}:Runs P l w (.makeFunc fn first cap) ((.func fn (first.map (ev l)) (cap.map (ev l)))):=fun d ty pos af=>by simp [execOp,Instr.makeFunc]
abbrev Str:=List UInt8
def sv (s:Str):Value:=.string ⟨s.toArray⟩
theorem toList_mk (s:Str):(⟨s.toArray⟩:ByteArray).toList=s:=by
 simp [ByteArray.toList_eq]
theorem size_mk (s:Str):(⟨s.toArray⟩:ByteArray).size=s.length:=by
 simp [ByteArray.size]
theorem sv_of (b:ByteArray):Value.string b=sv b.data.toList:=by
 simp [sv]
theorem append_mk (a b:Str):(⟨a.toArray⟩:ByteArray)++⟨b.toArray⟩=⟨(a++b).toArray⟩:=by
 apply ByteArray.ext;simp
theorem extract_mk (s:Str) (i j:Nat):(⟨s.toArray⟩:ByteArray).extract i j=⟨((s.take j).drop i).toArray⟩:=by
 apply ByteArray.ext
 simp [ByteArray.data_extract,List.take_drop]
 by_cases h:i≤j
 ·rw [Nat.add_sub_cancel' h]
 ·rw [List.drop_eq_nil_of_le (by simp;omega),List.drop_eq_nil_of_le (by simp;omega)]
theorem u8beq (x c:UInt8):((x.toNat:Int)==(c.toNat:Int))=(x==c):=by
 rw [Bool.eq_iff_iff]
 simp only [beq_iff_eq]
 constructor
 ·intro h;exact UInt8.toNat_inj.1 (by omega)
 ·rintro rfl;rfl
abbrev ii (n:Int):Value:=.int .i64 n
theorem wrap_in {n:Int} (h1 : -9223372036854775808≤n) (h2:n≤9223372036854775807):IntKind.i64.wrap n=n:=IntWalk.i64_in _ ⟨h1,h2⟩
theorem R.lenS {x:Operand} {t:TypeId} [hT:StrT P t] {s:Str} (hx:ev l x=sv s):Runs P l w (.call ⟨.builtin .len,#[x],#[t]⟩) ((ii s.length)):=fun d ty pos af=>by simp [execOp,resolve,invoke,builtin,hx,sv,Builtin.len_,goInt,run_underlying hT.und,size_mk]
theorem R.lenL {x:Operand} {t e:TypeId} {k:Nat} [hT:SlT P t e k] {a:Option Addr} {n c:Nat} (hx:ev l x=.slice a n c):Runs P l w (.call ⟨.builtin .len,#[x],#[t]⟩) ((ii n)):=fun d ty pos af=>by simp [execOp,resolve,invoke,builtin,hx,Builtin.len_,goInt,run_underlying hT.und]
theorem R.add {x y:Operand} {t t':TypeId} {a b:Int} (hx:ev l x=ii a) (hy:ev l y=ii b) (h1 : -9223372036854775808≤a+b) (h2:a+b≤9223372036854775807):Runs P l w (.binOp .add t x y t') ((ii (a+b))):=fun d ty pos af=>by simp [execOp,eqGuard,hx,hy,binOp,Op.intArith,wrap_in h1 h2]
theorem R.sub {x y:Operand} {t t':TypeId} {a b:Int} (hx:ev l x=ii a) (hy:ev l y=ii b) (h1 : -9223372036854775808≤a - b) (h2:a - b≤9223372036854775807):Runs P l w (.binOp .sub t x y t') ((ii (a - b))):=fun d ty pos af=>by simp [execOp,eqGuard,hx,hy,binOp,Op.intArith,wrap_in h1 h2]
theorem R.mul {x y:Operand} {t t':TypeId} {a b:Int} (hx:ev l x=ii a) (hy:ev l y=ii b) (h1 : -9223372036854775808≤a * b) (h2:a * b≤9223372036854775807):Runs P l w (.binOp .mul t x y t') ((ii (a * b))):=fun d ty pos af=>by simp [execOp,eqGuard,hx,hy,binOp,Op.intArith,wrap_in h1 h2]
theorem R.cat {x y:Operand} {t t':TypeId} {a b:Str} (hx:ev l x=sv a) (hy:ev l y=sv b) (h1:a.length+b.length≤9223372036854775807):Runs P l w (.binOp .add t x y t') ((sv (a++b))):=fun d ty pos af=>by
  have h2:¬ ((((⟨a.toArray⟩:ByteArray).size+(⟨b.toArray⟩:ByteArray).size:Nat):Int) > IntKind.i64.max):=by
   rw [size_mk,size_mk];simp [IntKind.max,IntKind.signed,IntKind.bits];omega
  simp only [execOp,eqGuard,hx,hy,binOp,sv,Op.stringOp,if_neg h2,append_mk];simp
theorem R.eq {x y:Operand} {t t':TypeId} {k:IntKind} {a b:Int} (hx:ev l x=.int k a) (hy:ev l y=.int k b):Runs P l w (.binOp .eql t x y t') ((.bool (a==b))):=fun d ty pos af=>by simp [execOp,eqGuard,hx,hy,binOp,Op.intCmp]
theorem R.ne {x y:Operand} {t t':TypeId} {k:IntKind} {a b:Int} (hx:ev l x=.int k a) (hy:ev l y=.int k b):Runs P l w (.binOp .neq t x y t') ((.bool (a != b))):=fun d ty pos af=>by simp [execOp,eqGuard,hx,hy,binOp,Op.intCmp]
theorem R.lt {x y:Operand} {t t':TypeId} {k:IntKind} {a b:Int} (hx:ev l x=.int k a) (hy:ev l y=.int k b):Runs P l w (.binOp .lss t x y t') ((.bool (decide (a < b)))):=fun d ty pos af=>by simp [execOp,eqGuard,hx,hy,binOp,Op.intCmp]
theorem R.le {x y:Operand} {t t':TypeId} {k:IntKind} {a b:Int} (hx:ev l x=.int k a) (hy:ev l y=.int k b):Runs P l w (.binOp .leq t x y t') ((.bool (decide (a≤b)))):=fun d ty pos af=>by simp [execOp,eqGuard,hx,hy,binOp,Op.intCmp]
theorem R.gt' {x y:Operand} {t t':TypeId} {k:IntKind} {a b:Int} (hx:ev l x=.int k a) (hy:ev l y=.int k b):Runs P l w (.binOp .gtr t x y t') ((.bool (decide (b < a)))):=fun d ty pos af=>by simp [execOp,eqGuard,hx,hy,binOp,Op.intCmp]
theorem R.ge {x y:Operand} {t t':TypeId} {k:IntKind} {a b:Int} (hx:ev l x=.int k a) (hy:ev l y=.int k b):Runs P l w (.binOp .geq t x y t') ((.bool (decide (b≤a)))):=fun d ty pos af=>by simp [execOp,eqGuard,hx,hy,binOp,Op.intCmp]
theorem R.eqS {x y:Operand} {t t':TypeId} {a b:Str} (hx:ev l x=sv a) (hy:ev l y=sv b):Runs P l w (.binOp .eql t x y t') ((.bool (a==b))):=fun d ty pos af=>by simp only [execOp,eqGuard,hx,hy,binOp,sv,Op.stringOp,toList_mk];simp
theorem R.neS {x y:Operand} {t t':TypeId} {a b:Str} (hx:ev l x=sv a) (hy:ev l y=sv b):Runs P l w (.binOp .neq t x y t') ((.bool (!(a==b)))):=fun d ty pos af=>by simp only [execOp,eqGuard,hx,hy,binOp,sv,Op.stringOp,toList_mk];simp
theorem R.not {x:Operand} {t:TypeId} {b:Bool} (hx:ev l x=.bool b):Runs P l w (.unOp .not t x) ((.bool (!b))):=fun d ty pos af=>by simp [execOp,hx,Op.unary]
theorem R.idxS {x y:Operand} {t:TypeId} [hT:StrT P t] {s:Str} {k:IntKind} {i:Nat} {c:UInt8} (hx:ev l x=sv s) (hy:ev l y=.int k i) (hc:s[i]?=some c):Runs P l w (.index t x y) ((.int .u8 c.toNat)):=fun d ty pos af=>by
  have hg:(⟨s.toArray⟩:ByteArray)[i]?=some c:=by
   obtain ⟨hi,hv⟩:=List.getElem?_eq_some_iff.1 hc
   have hi':i < (⟨s.toArray⟩:ByteArray).size:=by rw [size_mk];exact hi
   rw [getElem?_pos (⟨s.toArray⟩:ByteArray) i hi']
   simp only [ByteArray.getElem_eq_getElem_data]
   simpa using hv
  simp [execOp,Instr.index,hx,hy,asIntOf,run_underlying hT.und,sv,hg]
theorem R.subS {x:Operand} {t:TypeId} [hT:StrT P t] {s:Str} {lo hi:Option Operand} {i j:Nat} (hx:ev l x=sv s)
  (hlo:match lo with | some y=>∃ k,ev l y=.int k i | none=>i=0) (hhi:match hi with | some y=>∃ k,ev l y=.int k j | none=>j=s.length)
  (h1:i≤j) (h2:j≤s.length):Runs P l w (.slice t x lo hi none) ((sv ((s.take j).drop i))):=fun d ty pos af=>by
  have hsz:=size_mk s
  cases lo <;> cases hi <;> simp only at hlo hhi
  ·subst hlo;subst hhi
   simp [execOp,Instr.sliceAt,Instr.slice,Instr.sliceBounds,hx,sv,run_underlying hT.und,hsz,extract_mk]
  ·obtain ⟨k,hk⟩:=hhi;subst hlo
   simp [execOp,Instr.sliceAt,Instr.slice,Instr.sliceBounds,Instr.sliceBound,asIntOf,hx,hk,sv,run_underlying hT.und,hsz,extract_mk,h2]
  ·obtain ⟨k,hk⟩:=hlo;subst hhi
   simp [execOp,Instr.sliceAt,Instr.slice,Instr.sliceBounds,Instr.sliceBound,asIntOf,hx,hk,sv,run_underlying hT.und,hsz,extract_mk,h1]
  ·obtain ⟨k,hk⟩:=hlo;obtain ⟨k',hk'⟩:=hhi
   simp [execOp,Instr.sliceAt,Instr.slice,Instr.sliceBounds,Instr.sliceBound,asIntOf,hx,hk,hk',sv,run_underlying hT.und,hsz,extract_mk,h1,h2]
theorem R.idxA {x y:Operand} {t e:TypeId} {k:Nat} [hT:SlT P t e k] {b o n c:Nat} {kk:IntKind} {i:Nat} (hx:ev l x=.slice (some ⟨b,o,none⟩) n c) (hy:ev l y=.int kk i) (hi:i < n):Runs P l w (.indexAddr t x y) ((.pointer (some ⟨b,o+i * k,none⟩))):=fun d ty pos af=>by
  simp [execOp,Instr.indexAt,hx,hy,asIntOf,run_underlying hT.und,hi,run_sizeOf' hT.siz,add_mk]
theorem R.fldA {x:Operand} {s:TypeId} {i off k:Nat} {agg:Bool} [hT:Fld P s i off k agg] {b o:Nat} (hx:ev l x=.pointer (some ⟨b,o,none⟩)):Runs P l w (.fieldAddr s x i) ((.pointer (some ⟨b,o+off,none⟩))):=fun d ty pos af=>by
  obtain ⟨hT⟩:=hT
  unfold fldIs at hT
  split at hT
  ·rename_i fs hu
   split at hT
   ·rename_i f hf
    simp only [Bool.and_eq_true,beq_iff_eq,bne_iff_ne,ne_eq] at hT
    obtain ⟨⟨⟨h1,h2⟩,h3⟩,h4⟩:=hT
    split at h2
    ·rename_i x hq
     have hs:(P.info? f.type).map (·.size)=some k:=by rw [hq];simpa using h2
     simp [execOp,Instr.fieldAt,hx,run_underlying hu,hf,Instr.sureAddr,fieldPlace,run_sizeOf' hs,h3,add_mk,h1]
    ·cases h2
   ·cases hT
  ·cases hT
theorem R.ld1 {x:Operand} {t:TypeId} [hT:Ty P t false 1] {a:Addr} {v:Value} (hx:ev l x=.pointer (some a)) (hv:w.cell? a=some v):Runs P l w (.load t x) (v):=fun d ty pos af=>by simp [execOp,Instr.loadAt,hx,Instr.sureAddr,run_loadVar1 hv]
theorem R.ldN {x:Operand} {t:TypeId} {k:Nat} [hT:Ty P t true k] {b o:Nat} {vs:List Value} (hx:ev l x=.pointer (some ⟨b,o,none⟩)) (hl:vs.length=k)
  (hv:∀ j v,vs[j]?=some v→w.cell? ⟨b,o+j,none⟩=some v):Runs P l w (.load t x) ((.agg vs.toArray)):=fun d ty pos af=>by simp [execOp,Instr.loadAt,hx,Instr.sureAddr,run_loadVarN hl hv]
end
def cellH (H:Array Obj) (b o:Nat):Option Value :=
 match H[b]? with
 | some (.cells c _ _)=>c[o]?
 | _=>none
theorem cell_eq (w:World) (b o:Nat):w.cell? ⟨b,o,none⟩=cellH w.heap b o:=by
 unfold World.cell? cellH
 cases w.heap[b]? with
 | none=>rfl
 | some x=>cases x <;> rfl
theorem cellH_lt {H:Array Obj} {b o:Nat} {v:Value} (h:cellH H b o=some v):b < H.size:=by
 unfold cellH at h
 cases hb:H[b]? with
 | none=>rw [hb] at h;cases h
 | some x=>exact (Array.getElem?_eq_some_iff.1 hb).1
theorem Ext.c {S:Nat→Prop} {w w':World} (hx:Ext S w w') {b o:Nat} {v:Value} (h:cellH w.heap b o=some v) (hs:¬ S b):cellH w'.heap b o=some v:=by
 unfold cellH at *
 rw [hx.block b (cellH_lt (H:=w.heap) (by unfold cellH;exact h)) hs]
 exact h
theorem c_of_blk {H:Array Obj} {b o:Nat} {cs:Array Value} {E:TypeId} {fz:Nat × Nat} {v:Value} (hb:H[b]?=some (.cells cs E fz)) (hv:cs[o]?=some v):cellH H b o=some v:=by
 unfold cellH;rw [hb];exact hv
theorem Ext.drew {S:Nat→Prop} (w:World):Ext S w w.drew:=⟨rfl,rfl,rfl,Nat.le_refl _,fun _ _ _=>rfl⟩
theorem R.ld {P:Program} {l:List Value} {w:World} {x:Operand} {t:TypeId} [hT:Ty P t false 1] {b o:Nat} {v:Value} (hx:ev l x=.pointer (some ⟨b,o,none⟩)) (hv:cellH w.heap b o=some v):Runs P l w (.load t x) v:=R.ld1 hx (by rw [cell_eq];exact hv)
theorem R.ldS {P:Program} {l:List Value} {w:World} {x:Operand} {t:TypeId} {k:Nat} [hT:Ty P t true k] {b o:Nat} {vs:List Value} (hx:ev l x=.pointer (some ⟨b,o,none⟩)) (hl:vs.length=k)
  (hv:∀ j v,vs[j]?=some v→cellH w.heap b (o+j)=some v):Runs P l w (.load t x) (.agg vs.toArray):=R.ldN hx hl (fun j v h=>by rw [cell_eq];exact hv j v h)
section
variable {H:Array Obj} {b o:Nat} {v0 v1 v2 v3 v4 v5:Value}
end
end Go.Xw
namespace Go.Xw
open Go.RowKit
class Zer (P:Program) (t:TypeId) (z:outParam Value):Prop where
 is:(P.info? t).bind (·.zero)=some z
structure Sto (w w':World) (b:Nat) (cs:Array Value) (E:TypeId):Prop where
 blk:w'.heap[b]?=some (.cells cs E (0,0))
 ext:Ext (·=b) w w'
 size:w'.heap.size=w.heap.size
def setL (cs:Array Value) (o:Nat):List Value→Array Value
 | []=>cs
 | v::r=>setL (cs.setIfInBounds o v) (o+1) r
def ones (vs:List Value):Bool:=vs.all (·.oneCell')
section
variable {P:Program} {w:World}
theorem run_zero {t:TypeId} {z:Value} [h:Zer P t z]:(zeroValue t).run P w=.ok z w:=by
 obtain ⟨h⟩:=h
 cases hq:P.info? t with
 | none=>simp [hq] at h
 | some i=>simp [hq] at h;simp [zeroValue,typeInfo,hq,h]
theorem Sto.refl {b:Nat} {cs:Array Value} {E:TypeId} (hb:w.heap[b]?=some (.cells cs E (0,0))):Sto w w b cs E:=⟨hb,Ext.refl _,rfl⟩
theorem Sto.trans {w1 w2:World} {b:Nat} {cs cs':Array Value} {E:TypeId} (h:Sto w w1 b cs E) (k:Sto w1 w2 b cs' E):Sto w w2 b cs' E :=
 ⟨k.blk,h.ext.trans k.ext,k.size.trans h.size⟩
theorem Sto.setCell {b o:Nat} {cs:Array Value} {E:TypeId} (hb:w.heap[b]?=some (.cells cs E (0,0))) (v:Value) :
  Sto w (w.setCell ⟨b,o,none⟩ v) b (cs.setIfInBounds o v) E :=
 ⟨heap_setCell_same w b o cs E v hb,⟨rfl,rfl,rfl,by simp,fun k _ hs=>heap_setCell_other w _ k v hs⟩,by simp⟩
theorem run_storeCells {b o:Nat} {E:TypeId}:∀ (vs:List Value) (i:Nat) (w:World) (cs:Array Value),w.heap[b]?=some (.cells cs E (0,0))→o+i+vs.length≤cs.size→ones vs=true →
  ∃ w',(storeCells ⟨b,o,none⟩ vs i).run P w=.ok () w'∧Sto w w' b (setL cs (o+i) vs) E
 | [],i,w,cs,hb,_,_=>⟨w,by simp [storeCells],Sto.refl hb⟩
 | v::r,i,w,cs,hb,hl,h1=>by
  simp only [ones,List.all_cons,Bool.and_eq_true] at h1
  simp only [List.length_cons] at hl
  have hs:=Sto.setCell (w:=w) (o:=o+i) hb v
  obtain ⟨w',hr,hst⟩:=run_storeCells (b:=b) (o:=o) (E:=E) r (i+1) _ _ hs.blk (by simp;omega) h1.2
  refine ⟨w',?_,hs.trans (by simpa [setL,Nat.add_assoc] using hst)⟩
  have hc:w.cell? ⟨b,o+i,none⟩=cs[o+i]?:=cell_of_row w b (o+i) cs E (0,0) hb
  have hc':∃ u,w.cell? ⟨b,o+i,none⟩=some u:=⟨cs[o+i]'(by omega),by rw [hc];simp⟩
  obtain ⟨u,hu⟩:=hc'
  have hf:w.frozen? ⟨b,o+i,none⟩=false:=frozen_of_row w b _ cs E hb
  have hst1:(store ((⟨b,o,none⟩:Addr).add i) v).run P w=.ok () (w.setCell ⟨b,o+i,none⟩ v):=by
   rw [add_mk]
   cases v <;> first | (simp [Value.oneCell'] at h1;done) | simp [store,Sem.run,hu,hf]
  simp only [storeCells,Sem.run_bind,hst1,Result.andThen_ok,hr]
theorem run_storeVar {t:TypeId} {agg:Bool} {k:Nat} [hT:Ty P t agg k] {b o:Nat} {E:TypeId} {cs:Array Value} {v:Value} (hb:w.heap[b]?=some (.cells cs E (0,0)))
  (hl:v.cells.size=k) (ho:o+k≤cs.size) (h1:ones v.cells.toList=true) :
  ∃ w',(storeVar t ⟨b,o,none⟩ v).run P w=.ok () w'∧Sto w w' b (setL cs o v.cells.toList) E:=by
 obtain ⟨w',hr,hs⟩:=run_storeCells (P:=P) (o:=o) v.cells.toList 0 w cs hb (by simp;omega) h1
 refine ⟨w',?_,by simpa using hs⟩
 simp [storeVar,run_sizeOf' hT.siz,hl,hr]
end
def setR:List Value→Nat→List Value→List Value
 | cs,_,[]=>cs
 | cs,o,v::r=>setR (upd cs o v) (o+1) r
def fillL (pl:Nat→Option (Nat × Nat)):List Value→List (Nat × Value)→Option (List Value)
 | cs,[]=>some cs
 | cs,(i,v)::r=>match pl i with
  | none=>none
  | some (o,k)=>if v.cells.size≠k || decide (o+v.cells.size > cs.length) then none else fillL pl (setR cs o v.cells.toList) r
theorem setR_len:∀ (vs:List Value) (cs:List Value) (o:Nat),(setR cs o vs).length=cs.length
 | [],_,_=>rfl
 | v::r,cs,o=>by
  rw [setR,setR_len r]
  have:=congrArg Array.size (upd_eq cs o v)
  simpa using this.symm
theorem foldl_setR:∀ (vs:List Value) (cs:List Value) (o n:Nat),
  (vs.zipIdx n).foldl (fun (cs:Array Value) (x:Value × Nat)=>cs.setIfInBounds (o+x.2) x.1) cs.toArray=(setR cs (o+n) vs).toArray
 | [],cs,o,n=>by simp [setR]
 | v::r,cs,o,n=>by
  simp only [List.zipIdx_cons,List.foldl_cons,upd_eq,setR]
  rw [foldl_setR r];rfl
theorem fill_list (pl:Nat→Option (Nat × Nat)):∀ (parts:List (Nat × Value)) (cs:List Value),
  Instr.fill pl cs.toArray parts=(fillL pl cs parts).map List.toArray
 | [],cs=>by simp [Instr.fill,fillL]
 | (i,v)::r,cs=>by
  simp only [Instr.fill,fillL]
  cases hp:pl i with
  | none=>rfl
  | some x =>
   obtain ⟨o,k⟩:=x
   simp only [List.size_toArray]
   split
   ·rfl
   ·have h:(v.cells.zipIdx.foldl (fun (cs:Array Value) (x:Value × Nat)=>cs.setIfInBounds (o+x.2) x.1) cs.toArray)=(setR cs o v.cells.toList).toArray:=by
     have:=foldl_setR v.cells.toList cs o 0
     rw [←Array.foldl_toList,Array.toList_zipIdx];exact this
    have h2:=fill_list pl r (setR cs o v.cells.toList)
    rw [←h2,←h]
def strIs (P:Program) (t:TypeId) (pl:List (Nat × Nat)):Bool :=
 match P.underlying t with
 | some (.struct fs)=>(fs.toList.map fun f=>(f.offset,(P.info? f.type).map (·.size)))==pl.map fun x=>(x.1,some x.2)
 | _=>false
class StF (P:Program) (t:TypeId) (pl:outParam (List (Nat × Nat))) (z:outParam (List Value)):Prop where
 is:strIs P t pl=true
 zero:(P.info? t).bind (·.zero)=some (.agg z.toArray)
section
variable {P:Program} {w:World}
theorem run_mapM_places {fs:List Field}:∀ {pl:List (Nat × Nat)},(fs.map fun f=>(f.offset,(P.info? f.type).map (·.size)))=(pl.map fun x=>(x.1,some x.2)) →
  (List.mapM (m:=Sem) (fun (f:Field)=>Functor.map (Prod.mk f.offset) (sizeOf f.type)) fs).run P w=.ok pl w:=by
 induction fs with
 | nil=>intro pl h;cases pl with | nil=>simp | cons=>simp at h
 | cons f fs ih =>
  intro pl h
  cases pl with
  | nil=>simp at h
  | cons x pl =>
   simp only [List.map_cons,List.cons.injEq,Prod.mk.injEq] at h
   obtain ⟨⟨h1,h2⟩,h3⟩:=h
   have:=ih h3
   have h5:=run_sizeOf' (w:=w) h2
   simp [List.mapM_cons,Sem.run_bind,h5,this,h1]
theorem run_build {t:TypeId} {pl:List (Nat × Nat)} {z:List Value} [hT:StF P t pl z] {parts:List (Nat × Value)} {cs:List Value} (hf:fillL (fun i=>pl[i]?) z parts=some cs) :
  (Instr.build t parts.toArray).run P w=.ok (.agg cs.toArray) w:=by
 obtain ⟨hi,hz⟩:=hT
 have hzz:(zeroValue t).run P w=.ok (.agg z.toArray) w:=by
  haveI:Zer P t (.agg z.toArray):=⟨hz⟩
  exact run_zero
 unfold strIs at hi
 split at hi
 ·rename_i fs hu
  have hm:=run_mapM_places (P:=P) (w:=w) (eq_of_beq hi)
  have hma:(Array.mapM (m:=Sem) (fun (f:Field)=>Functor.map (Prod.mk f.offset) (sizeOf f.type)) fs).run P w=.ok pl.toArray w:=by
   rw [Array.mapM_eq_mapM_toList]
   simp [hm]
  have hfl:=fill_list (fun i=>pl[i]?) parts z
  rw [hf] at hfl
  simp [Instr.build,Sem.run_bind,hzz,run_underlying hu,hma,Value.cells]
  simp [hfl]
 ·cases hi
end
section
variable {P:Program} {Q:Post} {l:List Value} {w:World} {ops:Array Oper} {rest:List Oper} {d:Option Tmp} {ty:TypeId} {pos:String} {af:Array Edge}
theorem run_newVar (t:TypeId) (v:Value):(newVar t v).run P w=.ok ⟨w.heap.size,0,none⟩ (w.alloc (.cells v.cells t)):=by
 rfl
theorem WL.alloc {t:TypeId} {z:Value} [hT:Zer P t z] (h:∀ b w',New w w' b (.cells z.cells t)→WL P ops Q rest (put l d (.pointer (some ⟨b,0,none⟩))) w') :
  WL P ops Q (⟨d,.alloc t,ty,pos,af,none⟩::rest) l w :=
 WL.val (w':=w.alloc (.cells z.cells t)) (by simp [execOp,Instr.alloc,run_zero (w:=w) (z:=z),run_newVar]) (h _ _ (New.of w _))
theorem WL.box {t:TypeId} {x:Operand} {v:Value} (hx:ev l x=v) (h:∀ b w',New w w' b (.cells v.cells t)→WL P ops Q rest (put l d (.pointer (some ⟨b,0,none⟩))) w') :
  WL P ops Q (⟨d,.box t x,ty,pos,af,none⟩::rest) l w :=
 WL.val (w':=w.alloc (.cells v.cells t)) (by simp [execOp,Instr.box,run_newVar,hx]) (h _ _ (New.of w _))
theorem R.build {t:TypeId} {pl:List (Nat × Nat)} {z:List Value} [hT:StF P t pl z] {parts:List (Nat × Operand)} {cs:List Value}
  (hf:fillL (fun i=>pl[i]?) z (parts.map fun x=>(x.1,ev l x.2))=some cs):Runs P l w (.build t parts.toArray) (.agg cs.toArray):=fun d ty pos af=>by
  have hr:=run_build (P:=P) (w:=w) (t:=t) hf
  simp only [execOp,List.map_toArray]
  simp [hr]
class SlZ (P:Program) (t:TypeId) (e:outParam TypeId) (k:outParam Nat) (z:outParam (List Value)):Prop where
 und:P.underlying t=some (.slice e)
 siz:(P.info? e).map (·.size)=some k
 zero:(P.info? e).bind (·.zero)=some (if k=1 then z.headD undef else .agg z.toArray)
 zl:z.length=k
 pos:0 < k
 one:k=1→(z.headD undef).cells=#[z.headD undef]
theorem SlZ.cells {t e:TypeId} {k:Nat} {z:List Value} (h:SlZ P t e k z):(if k=1 then z.headD undef else .agg z.toArray).cells=z.toArray:=by
 split
 ·rename_i hk
  rw [h.one hk]
  have:=h.zl
  rw [hk] at this
  match z,this with
  | [a],_=>rfl
 ·rfl
theorem WL.mkslice {t e:TypeId} {k:Nat} {z:List Value} [hT:SlZ P t e k z] {n:Nat} {parts:List (Nat × Operand)} {cs:List Value} (hn:n * k≤16777216)
  (hf:fillL (fun i=>some (i * k,k)) ((List.range (n * k)).map fun j=>z.getD (j % k) undef) (parts.map fun x=>(x.1,ev l x.2))=some cs)
  (h:∀ b w',New w w' b (.cells cs.toArray e)→WL P ops Q rest (put l d (.slice (some ⟨b,0,none⟩) n n)) w') :
  WL P ops Q (⟨d,.buildSlice t n parts.toArray,ty,pos,af,none⟩::rest) l w :=
 WL.val (w':=w.alloc (.cells cs.toArray e)) (by
  have hz:(zeroValue e).run P w=.ok (if k=1 then z.headD undef else .agg z.toArray) w:=by
   haveI:Zer P e (if k=1 then z.headD undef else .agg z.toArray):=⟨hT.zero⟩
   exact run_zero
  have hc:=hT.cells
  generalize (if k=1 then z.headD undef else .agg z.toArray:Value)=zv at hz hc
  have hfl:=fill_list (fun i=>some (i * k,k)) (parts.map fun x=>(x.1,ev l x.2)) ((List.range (n * k)).map fun j=>z.getD (j % k) undef)
  rw [hf] at hfl
  have hn':¬ (16777216 < n * k):=by omega
  by_cases h0:n * k=0
  ·have h00:n=0:=by
    rcases Nat.mul_eq_zero.1 h0 with h | h
    ·exact h
    ·have:=hT.pos;omega
   subst h00
   simp only [Nat.zero_mul,List.range_zero,List.map_nil] at hfl
   simp only [execOp,List.map_toArray]
   have hr0:(Array.range 0)=#[]:=rfl
   simp [Instr.buildSlice,run_underlying hT.und,run_sizeOf' hT.siz,hr0,hfl]
   rfl
  ·have he:(Array.range (n * k)).map (fun j=>z.toArray[j % z.toArray.size]!)=((List.range (n * k)).map fun j=>z.getD (j % k) undef).toArray:=by
    apply Array.ext'
    simp only [Array.toList_map,Array.toList_range]
    apply List.map_congr_left
    intro j _
    have hk:=hT.pos
    have hlt:j % k < z.length:=by rw [hT.zl];exact Nat.mod_lt _ hk
    rw [List.getD_eq_getElem?_getD,List.getElem?_eq_getElem hlt]
    simp [hT.zl]
    rw [List.getElem?_eq_getElem hlt];rfl
   rw [←he] at hfl
   simp only [execOp,List.map_toArray]
   simp [Instr.buildSlice,run_underlying hT.und,run_sizeOf' hT.siz,hn',h0,hz,hc]
   simp only [List.size_toArray] at hfl
   simp at hfl
   simp [hfl]
   rfl) (h _ _ (New.of w _))
theorem WL.st {x y:Operand} {t:TypeId} {agg:Bool} {k:Nat} [hT:Ty P t agg k] {b o:Nat} {E:TypeId} {cs:Array Value} {v:Value} (hx:ev l x=.pointer (some ⟨b,o,none⟩)) (hy:ev l y=v)
  (hb:w.heap[b]?=some (.cells cs E (0,0))) (hl:v.cells.size=k) (ho:o+k≤cs.size) (h1:ones v.cells.toList=true)
  (h:∀ w',Sto w w' b (setL cs o v.cells.toList) E→WL P ops Q rest (put l d undef) w'):WL P ops Q (⟨d,.store t x y,ty,pos,af,none⟩::rest) l w:=by
 obtain ⟨w',hr,hs⟩:=run_storeVar (P:=P) (t:=t) hb hl ho h1
 exact WL.skp (w':=w') (by simp [execOp,Instr.storeAt,hx,hy,Instr.sureAddr,hr]) (h w' hs)
end
def entersOk (P:Program) (f:FuncId):Bool :=
 match P.funcs[f]? with
 | some fn=>fn.name != "runtime.NumGoroutine" && fn.body.isSome
 | none=>false
class Fun (P:Program) (f:FuncId):Prop where
 ok:entersOk P f=true
def Ret (P:Program) (f:FuncId) (args:List Value) (w:World) (R:Value→World→Prop):Prop :=
 Calls P f args.toArray w fun e w'=>∃ v,e=.returned v∧R v w'
theorem Ret.mono {P:Program} {f:FuncId} {args:List Value} {w:World} {R R':Value→World→Prop} (h:Ret P f args w R) (hr:∀ v w',R v w'→R' v w'):Ret P f args w R' :=
 Calls.mono h fun _ _ ⟨v,he,r⟩=>⟨v,he,hr _ _ r⟩
theorem run_callFunc {P:Program} {w:World} {f:FuncId} [h:Fun P f] (args:Array Value):(callFunc f args).run P w=.ok (.enter f args) w:=by
 obtain ⟨h⟩:=h
 unfold entersOk at h
 split at h
 ·rename_i fn hf
  simp only [Bool.and_eq_true,bne_iff_ne,ne_eq] at h
  have h2:fn.body.isNone=false:=by cases hb:fn.body <;> simp_all
  simp [callFunc,program,Sem.run,hf,h.1,h2]
  intro hn;simp [hn] at h2
 ·cases h
section
variable {P:Program} {Q:Post} {l:List Value} {w:World} {ops:Array Oper} {rest:List Oper} {d:Option Tmp} {ty:TypeId} {pos:String} {af:Array Edge}
theorem WL.calls {op:Op} {f:FuncId} {argv:List Value} (hr:(execOp (ev l) ⟨d,op,ty,pos,af,none⟩).run P w=.ok (.enter f argv.toArray) w) {R:Value→World→Prop}
  (hc:Ret P f argv w R) (h:∀ v w',R v w'→WL P ops Q rest (put l d v) w'):WL P ops Q (⟨d,op,ty,pos,af,none⟩::rest) l w:=by
 refine wpList_plain rfl fun K hK=>?_
 simp only [Oper.wp,act_eval,hr,Oper.upon_enter]
 refine Calls.mono hc ?_
 rintro e w' ⟨v,rfl,hv⟩
 simp only [act_put]
 exact hK _ _ (h v w' hv)
theorem WL.call {f:FuncId} [hf:Fun P f] {args:List Operand} {tys:Array TypeId} {argv:List Value} (ha:args.map (ev l)=argv) {R:Value→World→Prop}
  (hc:Ret P f argv w R) (h:∀ v w',R v w'→WL P ops Q rest (put l d v) w'):WL P ops Q (⟨d,.call ⟨.value (.func f),args.toArray,tys⟩,ty,pos,af,none⟩::rest) l w :=
 WL.calls (by simp [execOp,resolve,ev,Deferred.ofValue,invoke,run_callFunc,ha]) hc h
end
def rep:Nat→List Value
 | 0=>[]
 | n+1=>undef::rep n
def frame:List Value→Nat→List Value
 | [],n=>rep n
 | a::r,n=>a::frame r (n - 1)
theorem rep_eq (n:Nat):rep n=List.replicate n undef:=by
 induction n with
 | zero=>rfl
 | succ n ih=>rw [rep,ih];rfl
theorem frame_eq (args:List Value) (n:Nat):frame args n=args++List.replicate (n - args.length) undef:=by
 induction args generalizing n with
 | nil=>simp [frame,rep_eq]
 | cons a r ih=>rw [frame,ih];simp [Nat.sub_sub,Nat.add_comm]
def bpost (P:Program) (fn:Func) (R:Value→World→Prop):Post
 | .normal,l,w | .ret,l,w=>∃ v,(results fn l.toArray).run P w=.ok v w∧R v w
 | _,_,_=>False
theorem Ret.enter {P:Program} {f:FuncId} {fn:Func} {c:Code} {args:List Value} {w:World} {R:Value→World→Prop} {n:Nat} {l:List Value}
  (hf:P.funcs[f]?=some fn) (hn:fn.ntmps=n) (hb:fn.body=some c) (hl:frame args n=l) (h:W P c (bpost P fn R) l w):Ret P f args w R:=by
 subst hl
 refine calls_of_wp hf hb ?_
 have hfr:(args.toArray++Array.replicate (fn.ntmps - args.toArray.size) undef)=(frame args n).toArray:=by
  simp [frame_eq,hn]
 rw [hfr]
 refine wp_mono h ?_
 rintro e a w ⟨l,rfl,hq⟩
 cases e <;> simp only [bpost] at hq <;> simp only [bodyPost]
 ·obtain ⟨v,hr,hv⟩:=hq;exact ⟨rfl,v,hr,v,rfl,hv⟩
 ·obtain ⟨v,hr,hv⟩:=hq;exact ⟨rfl,v,hr,v,rfl,hv⟩
end Go.Xw
namespace Go.Xw
open Go.RowKit
def apIs (P:Program) (t e k by':Nat):Bool :=
 (match P.underlying t with | some (.slice e')=>e'==e | _=>false) &&
 (match P.info? e with
  | some i=>(match i.zero with | some z=>z.cells.size==k | none=>false)&&i.size==k&&i.bytes==by'
  | none=>false)&&k != 0
class ApT (P:Program) (t:TypeId) (e:outParam TypeId) (k:outParam Nat) (by':outParam Nat):Prop where
 is:apIs P t e k by'=true
theorem ApT.parts {P:Program} {t e k by':Nat} (h:ApT P t e k by') :
  P.underlying t=some (.slice e)∧(∃ i z,P.info? e=some i∧i.zero=some z∧z.cells.size=k∧i.size=k∧i.bytes=by')∧0 < k:=by
 obtain ⟨h⟩:=h
 simp only [apIs,Bool.and_eq_true,bne_iff_ne,ne_eq] at h
 obtain ⟨⟨h1,h2⟩,h3⟩:=h
 refine ⟨?_,?_,by omega⟩
 ·split at h1
  ·rename_i e' hu;rw [hu];simp at h1;rw [h1]
  ·cases h1
 ·split at h2
  ·rename_i i hi
   simp only [Bool.and_eq_true,beq_iff_eq] at h2
   obtain ⟨⟨h4,h5⟩,h6⟩:=h2
   split at h4
   ·rename_i z hz
    exact ⟨i,z,hi,hz,by simpa using h4,h5,h6⟩
   ·cases h4
  ·cases h2
abbrev Own (w:World) (base:Nat) (e k:Nat) (v:Value) (n:Nat) (xs:List Value):Prop:=w.ownsRow base e k v n xs
theorem Own.nil (w:World) (base e k:Nat):Own w base e k (.slice none 0 0) 0 []:=World.ownsRow_nil w base e k
theorem Own.ext {S:Nat→Prop} {w w':World} {base e k:Nat} {v:Value} {n:Nat} {xs:List Value} (h:Own w base e k v n xs) (hx:Ext S w w') (hs:∀ b,v.ownBlock=some b→¬ S b):Own w' base e k v n xs:=by
 obtain ⟨h1,h2⟩:=h
 refine ⟨h1,?_⟩
 rcases h2 with h2 | ⟨g,cap,cur,rfl,hb,hg,r⟩
 ·exact .inl h2
 ·exact .inr ⟨g,cap,cur,rfl,hb,hx.blk hg (hs g rfl),r⟩
theorem Own.lt {w:World} {base e k:Nat} {v:Value} {n:Nat} {xs:List Value} (h:Own w base e k v n xs) {b:Nat} (hv:v.ownBlock=some b):base≤b∧b < w.heap.size:=by
 obtain ⟨h1,h2⟩:=h
 rcases h2 with ⟨rfl,_⟩ | ⟨g,cap,cur,rfl,hb,hg,r⟩
 ·cases hv
 ·simp only [Value.ownBlock,Option.some.injEq] at hv;subst hv;exact ⟨hb,lt_of_blk hg⟩
theorem Own.shape {w:World} {base e k:Nat} {v:Value} {n:Nat} {xs:List Value} (h:Own w base e k v n xs):∃ a c,v=.slice a n c:=by
 obtain ⟨h1,h2⟩:=h
 rcases h2 with ⟨rfl,rfl⟩ | ⟨g,cap,cur,rfl,_⟩
 ·exact ⟨_,_,rfl⟩
 ·exact ⟨_,_,rfl⟩
theorem Own.base {w:World} {base base' e k:Nat} {v:Value} {n:Nat} {xs:List Value} (h:Own w base e k v n xs) (hb:base'≤base):Own w base' e k v n xs:=by
 obtain ⟨h1,h2⟩:=h
 refine ⟨h1,?_⟩
 rcases h2 with h2 | ⟨g,cap,cur,rfl,hb',r⟩
 ·exact .inl h2
 ·exact .inr ⟨g,cap,cur,rfl,Nat.le_trans hb hb',r⟩
theorem Own.cells {w:World} {base e k:Nat} {v:Value} {n:Nat} {xs:List Value} (h:Own w base e k v n xs) :
  xs.length=n * k∧(xs≠[]→∃ b c,v=.slice (some ⟨b,0,none⟩) n c∧base≤b∧b < w.heap.size∧∀ j u,xs[j]?=some u→w.cell? ⟨b,j,none⟩=some u):=by
 obtain ⟨h1,h2⟩:=h
 refine ⟨h1,fun hne=>?_⟩
 rcases h2 with ⟨rfl,rfl⟩ | ⟨g,cap,cur,rfl,hb,hg,hn,hm,hsz,ht⟩
 ·simp at h1;exact absurd h1 hne
 ·refine ⟨g,cap,rfl,hb,lt_of_blk hg,fun j u hj=>?_⟩
  rw [cell_of_row w g j cur e (0,0) hg]
  rw [←ht] at hj
  rw [List.getElem?_take] at hj
  split at hj
  ·simpa using hj
  ·cases hj
theorem Own.of_new {w w':World} {b e k n:Nat} {cs:List Value} (h:New w w' b (.cells cs.toArray e)) (hl:cs.length=n * k) (hm:n≤maxLen):Own w' w.heap.size e k (.slice (some ⟨b,0,none⟩) n n) n cs :=
 ⟨hl,.inr ⟨b,n,cs.toArray,rfl,by rw [h.fresh];exact Nat.le_refl _,h.blk,Nat.le_refl _,hm,by simpa using hl,by simp [←hl]⟩⟩
section
variable {P:Program} {Q:Post} {l:List Value} {w:World} {ops:Array Oper} {rest:List Oper} {d:Option Tmp} {ty:TypeId} {pos:String} {af:Array Edge}
theorem WL.app {s x:Operand} {t e k by':Nat} [hT:ApT P t e k by'] {base n m c b o:Nat} {xs news:List Value} {v:Value} (hs:ev l s=v) (hown:Own w base e k v n xs)
  (hx:ev l x=.slice (some ⟨b,o,none⟩) m c) (hl:news.length=m * k) (hnews:∀ j u,news[j]?=some u→w.cell? ⟨b,o+j,none⟩=some u) (h1:ones news=true)
  (h63:n+m≤9223372036854775807) (hbytes:(n+m) * by'≤140737488355328) (hbase:base≤w.heap.size)
  (h:∀ v' w',Own w' base e k v' (n+m) (xs++news)→Ext (fun b=>v.ownBlock=some b) w w'→(∀ b,v'.ownBlock=some b→v.ownBlock=some b∨w.heap.size≤b)→(Ext none' w w'∨v'.ownBlock=v.ownBlock)→WL P ops Q rest (put l d v') w') :
  WL P ops Q (⟨d,.call ⟨.builtin .append,#[s,x],#[t,t]⟩,ty,pos,af,none⟩::rest) l w:=by
 obtain ⟨hu,⟨i,z,hi,hz,hzs,hsz,hby⟩,hk⟩:=hT.parts
 obtain ⟨v',w',hr,h2,h3,h4⟩:=run_append_own (P:=P) w base t ty e i z k by' hu hi hz hsz hby hzs hk v n xs hown ⟨b,o,none⟩ m c news hl
  (fun j u hj=>by rw [add_mk];exact hnews j u hj) (by simpa [ones] using h1) (by simpa [maxLen] using h63) hbytes hbase
 have hext:Ext (fun b=>v.ownBlock=some b) w w':=⟨h3.os,h3.tape,h3.output,h3.size,fun j hj hn=>h3.block j hj fun he=>hn he.symm⟩
 have hnews':∀ j u,news[j]?=some u→w.cell? ((⟨b,o,none⟩:Addr).add j)=some u:=fun j u hj=>by rw [add_mk];exact hnews j u hj
 have hl':news.length=m * i.size:=by rw [hsz];exact hl
 have hby2:(n+m) * i.bytes≤140737488355328:=by rw [hby];exact hbytes
 refine WL.val (v:=v') (w':=w') (by simp [execOp,resolve,invoke,builtin,hs,hx,hr]) (h v' w' h2 hext ?_ ?_)
 ·intro b' hb'
  have hown':=hown.2
  rcases hown' with ⟨rfl,rfl⟩ | ⟨g,cap,cur,rfl,hbg,hg,hnc,hcm,hcs,htake⟩
  ·by_cases hm:m=0
   ·have:=h4.2 ⟨rfl,hm⟩;subst this;cases hb'
   ·have hr2:=run_append_nil (P:=P) w t ty e i z hu hi hz ⟨b,o,none⟩ m c news hl' hnews' (by omega) (by omega) (by simp only [Nat.zero_add] at hby2;omega)
    rw [hr] at hr2
    cases hr2
    simp only [Value.ownBlock,Option.some.injEq] at hb'
    exact .inr (by omega)
  ·by_cases hroom:n+m≤cap
   ·have hr2:=run_append_room (P:=P) w t ty e i hu hi g n cap cur hg ⟨b,o,none⟩ m c news hl' hnews' (by simpa [ones] using h1) hroom
     (by rw [hl',hcs,←Nat.add_mul,hsz];exact Nat.mul_le_mul_right _ hroom)
    rw [hr] at hr2
    cases hr2
    exact .inl hb'
   ·have holds:∀ j u,xs[j]?=some u→w.cell? ((⟨g,0,none⟩:Addr).add j)=some u:=World.ownsRow.cells (g:=g) hown rfl
    have hr2:=run_append_grow (P:=P) w t ty e i z hu hi hz ⟨g,0,none⟩ n cap xs (by rw [hsz];exact hown.1) holds ⟨b,o,none⟩ m c news hl' hnews' (by omega) (by omega) (growslice_fits (by omega) hby2)
    rw [hr] at hr2
    cases hr2
    simp only [Value.ownBlock,Option.some.injEq] at hb'
    exact .inr (by omega)
 ·have hown':=hown.2
  rcases hown' with ⟨rfl,rfl⟩ | ⟨g,cap,cur,rfl,hbg,hg,hnc,hcm,hcs,htake⟩
  ·exact .inl (hext.mono fun k _ hk=>by cases hk)
  ·by_cases hroom:n+m≤cap
   ·have hr2:=run_append_room (P:=P) w t ty e i hu hi g n cap cur hg ⟨b,o,none⟩ m c news hl' hnews' (by simpa [ones] using h1) hroom
     (by rw [hl',hcs,←Nat.add_mul,hsz];exact Nat.mul_le_mul_right _ hroom)
    rw [hr] at hr2
    cases hr2
    exact .inr rfl
   ·have holds:∀ j u,xs[j]?=some u→w.cell? ((⟨g,0,none⟩:Addr).add j)=some u:=World.ownsRow.cells (g:=g) hown rfl
    have hr2:=run_append_grow (P:=P) w t ty e i z hu hi hz ⟨g,0,none⟩ n cap xs (by rw [hsz];exact hown.1) holds ⟨b,o,none⟩ m c news hl' hnews' (by omega) (by omega) (growslice_fits (by omega) hby2)
    rw [hr] at hr2
    cases hr2
    exact .inl ⟨rfl,rfl,rfl,by simp,fun k hk _=>Below.heap_alloc _ _ _ (by simpa using hk)⟩
theorem WL.push {x s:Operand} {t e k by':Nat} {z:List Value} [hT:ApT P t e k by'] [hZ:SlZ P t e k z] {base n:Nat} {xs vs:List Value} {v val:Value} {d1:Tmp} {ty1:TypeId} {pos1:String} {af1:Array Edge}
  (hx:ev l x=val) (hs:∀ u,ev (put l (some d1) u) s=v) (hd:∀ u,ev (put l (some d1) u) (.tmp d1)=u) (hc:val.cells=vs.toArray) (hk:vs.length=k) (h1:ones vs=true)
  (hown:Own w base e k v n xs) (h63:n+1≤9223372036854775807) (hbytes:(n+1) * by'≤140737488355328) (hk24:k≤16777216) (hbase:base≤w.heap.size)
  (h:∀ u v' w',Own w' base e k v' (n+1) (xs++vs)→Ext (fun b=>v.ownBlock=some b) w w'→(∀ b,v'.ownBlock=some b→v.ownBlock=some b∨w.heap.size≤b)→(Ext none' w w'∨v'.ownBlock=v.ownBlock)→WL P ops Q rest (put (put l (some d1) u) d v') w') :
  WL P ops Q (⟨some d1,.buildSlice t 1 #[(0,x)],ty1,pos1,af1,none⟩::⟨d,.call ⟨.builtin .append,#[s,.tmp d1],#[t,t]⟩,ty,pos,af,none⟩::rest) l w:=by
 have hkp:=hZ.pos
 have hsz:val.cells.size=k:=by rw [hc];simpa using hk
 have hset:∀ (vs cs:List Value),vs.length=cs.length→setR cs 0 vs=vs:=by
  have gen:∀ (vs pre cs:List Value),vs.length=cs.length→setR (pre++cs) pre.length vs=pre++vs:=by
   intro vs
   induction vs with
   | nil=>intro pre cs hl;cases cs <;> simp_all [setR]
   | cons a r ih =>
    intro pre cs hl
    cases cs with
    | nil=>simp at hl
    | cons c cs =>
     have hu:upd (pre++c::cs) pre.length a=pre++a::cs:=by
      clear hl
      induction pre with
      | nil=>rfl
      | cons p pre ihp=>simp [upd,ihp]
     rw [setR,hu]
     have:=ih (pre++[a]) cs (by simpa using hl)
     simpa using this
  intro vs cs hl
  exact gen vs [] cs hl
 have hfill:fillL (fun i=>some (i * k,k)) ((List.range (1 * k)).map fun j=>z.getD (j % k) undef) ([((0:Nat),x)].map fun y=>(y.1,ev l y.2))=some vs:=by
  simp only [List.map_cons,List.map_nil,fillL,hx,hsz]
  simp [hk,hc]
  exact hset vs _ (by simpa using hk)
 refine WL.mkslice (n:=1) (parts:=[(0,x)]) (by omega) hfill ?_
 intro b2 w2 hn2
 have hown2:Own w2 base e k v n xs:=hown.ext hn2.ext (fun _ _ h=>h)
 refine WL.app (base:=base) (v:=v) (n:=n) (xs:=xs) (news:=vs) (m:=1) (hs _) hown2 (hd _) (by omega) (fun j u hj=>?_) h1 h63 hbytes (Nat.le_trans hbase hn2.ext.size) ?_
 ·rw [Nat.zero_add];exact at_of_blk hn2.blk (by simpa using hj)
 ·intro v' w3 ho hx3 hb hor
  refine h _ v' w3 ho ((hn2.ext.mono (fun _ _ h=>h.elim)).trans hx3) (fun b hb'=>?_) (hor.imp (fun h5=>hn2.ext.trans h5) id)
  rcases hb b hb' with h4 | h4
  ·exact .inl h4
  ·exact .inr (Nat.le_trans hn2.ext.size h4)
end
end Go.Xw
namespace Go.Xw
open Go.RowKit
section
variable {P:Program} {ops:Array Oper} {S:Nat→Prop}
end
def nthO:List Oper→Nat→Oper
 | [],_=>default
 | o::_,0=>o
 | _::r,n+1=>nthO r n
theorem nthO_eq (ol:List Oper) (i:Nat) (o:Oper) (h:ol.toArray[i]?=some o):nthO ol i=o:=by
 have h':ol[i]?=some o:=by simpa using h
 clear h
 induction ol generalizing i with
 | nil=>simp at h'
 | cons x r ih =>
  cases i with
  | zero=>simpa [nthO] using h'
  | succ i=>exact ih i (by simpa using h')
section
variable {P:Program} {ops:Array Oper} {S:Nat→Prop} {Q:Post} {l:List Value} {w:World} {r:List (Oper × Bool)} {d:Option Tmp} {op:Op} {ty:TypeId} {pos:String} {af:Array Edge}
end
end Go.Xw
namespace Go.Xw
open Go.RowKit
def sameK:IntKind→IntKind→Bool
 | .i8,.i8 | .i16,.i16 | .i32,.i32 | .i64,.i64 | .u8,.u8 | .u16,.u16 | .u32,.u32 | .u64,.u64=>true
 | _,_=>false
theorem sameK_eq {a b:IntKind} (h:sameK a b=true):a=b:=by cases a <;> cases b <;> first | rfl | cases h
def goCmp (op:BinOp) (a b:Int):Option Value :=
 match op with
 | .eql=>some (.bool (a==b))
 | .neq=>some (.bool (a != b))
 | .lss=>some (.bool (decide (a < b)))
 | .leq=>some (.bool (decide (a≤b)))
 | .gtr=>some (.bool (decide (b < a)))
 | .geq=>some (.bool (decide (b≤a)))
 | _=>none
def goBin (op:BinOp):Value→Value→Option Value
 | .int k a,.int k' b=>match sameK k k' with
  | true=>goCmp op a b
  | false=>none
 | _,_=>none
def goOne (c:Op) (x:Value):Option Value :=
 match c with
 | .nilCheck _=>match x with
  | .pointer (some a)=>some (.pointer (some a))
  | _=>none
 | .unOp .not _ _=>match x with
  | .bool b=>some (.bool (!b))
  | _=>none
 | .extract _ i=>match x with
  | .tuple vs=>vs[i]?
  | _=>none
 | _=>none
def go (ρ:Operand→Value) (o:Op):Option Value :=
 match o with
 | .move x=>some (ρ x)
 | .assign x=>some (ρ x)
 | .makeFunc fn f c=>some (.func fn (f.map ρ) (c.map ρ))
 | .binOp op _ x y _=>goBin op (ρ x) (ρ y)
 | .nilCheck x=>goOne o (ρ x)
 | .unOp _ _ x=>goOne o (ρ x)
 | .extract x _=>goOne o (ρ x)
 | _=>none
section
variable {P:Program} {l:List Value} {w:World}
theorem go_runs {o:Op} {v:Value} (h:go (ev l) o=some v):Runs P l w o v:=by
 unfold go at h
 split at h
 ·cases h;exact R.mv
 ·cases h;exact R.asg
 ·cases h;exact R.mkfn
 ·rename_i op t x y t'
  unfold goBin at h
  split at h
  ·rename_i k a k' b hx hy
   split at h
   ·rename_i hk
    have:=sameK_eq hk
    subst this
    unfold goCmp at h
    split at h <;> first | (cases h;done) | skip
    ·cases h;exact R.eq hx hy
    ·cases h;exact R.ne hx hy
    ·cases h;exact R.lt hx hy
    ·cases h;exact R.le hx hy
    ·cases h;exact R.gt' hx hy
    ·cases h;exact R.ge hx hy
   ·cases h
  ·cases h
 ·unfold goOne at h
  simp only at h
  split at h
  ·rename_i a hx;cases h;exact R.nilck hx
  ·cases h
 ·rename_i op t x
  unfold goOne at h
  cases op <;> simp only at h <;> first | (cases h;done) | skip
  split at h
  ·rename_i b hx;cases h;exact R.not hx
  ·cases h
 ·unfold goOne at h
  simp only at h
  split at h
  ·rename_i vs hx;exact R.extract hx h
  ·cases h
 ·cases h
theorem R.addN {x y:Operand} {t t':TypeId} {a b:Nat} (hx:ev l x=ii a) (hy:ev l y=ii b) (hb:a+b≤9223372036854775807):Runs P l w (.binOp .add t x y t') (ii ((a+b:Nat):Int)):=R.add hx hy (by omega) (by omega)
theorem R.add1 {x y:Operand} {t t':TypeId} {a:Nat} (hx:ev l x=ii a) (hy:ev l y=ii 1) (hb:a+1≤9223372036854775807):Runs P l w (.binOp .add t x y t') (ii ((a+1:Nat):Int)):=R.add hx hy (by omega) (by omega)
theorem R.pkT {c a b:Operand} {t:Bool} (hc:ev l c=.bool t) (ht:t=true):Runs P l w (.pick c a b) (ev l a):=by
 subst ht;exact R.pick hc
theorem R.pkF {c a b:Operand} {t:Bool} (hc:ev l c=.bool t) (ht:t=false):Runs P l w (.pick c a b) (ev l b):=by
 subst ht;exact R.pick hc
end
section
variable {P:Program} {Q:Post} {l:List Value} {w:World} {ops:Array Oper} {rest:List Oper} {d:Option Tmp} {op:Op} {ty:TypeId} {pos:String} {af:Array Edge} {v:Value} {S:Nat→Prop} {r:List (Oper × Bool)}
end
def wantL (ops:List Oper) (l:List Value):Option (Nat × Bool)→Bool
 | none=>true
 | some (j,b)=>match (nthO ops j).dst with
  | some t=>match nth l t with
   | .bool c=>c==b
   | _=>false
  | none=>false
def inL {α:Type}:List α→Nat→Bool
 | [],_=>false
 | _::_,0=>true
 | _::r,n+1=>inL r n
theorem inL_lt {α:Type}:∀ {l:List α} {n:Nat},inL l n=true→n < l.length
 | [],_,h=>by cases h
 | _::_,0,_=>by simp
 | _::r,n+1,h=>by have:=inL_lt (l:=r) (n:=n) h;simp;omega
def isB:Option (Nat × Bool)→List Oper→List Value→Bool
 | some (j,_),ops,l=>inL ops j&&(match (nthO ops j).dst with
  | some t=>inL l t&&(match nth l t with | .bool _=>true | .tuple _=>true | _=>false)
  | none=>false)
 | none,_,_=>true
theorem nthO_lt (ol:List Oper) (j:Nat) (h:j < ol.length):ol.toArray[j]?=some (nthO ol j):=by
 obtain ⟨o,ho⟩:∃ o,ol.toArray[j]?=some o:=⟨ol[j],by simp [h]⟩
 rw [ho,nthO_eq ol j o ho]
theorem nth_lt (l:List Value) (t:Nat) (h:t < l.length):l[t]?=some (nth l t):=by
 induction l generalizing t with
 | nil=>simp at h
 | cons x l ih=>cases t with
  | zero=>rfl
  | succ t=>simpa [nth] using ih t (by simpa using h)
theorem want_eq {ops:Array Oper} {d:Option Tmp} {op:Op} {ty:TypeId} {pos:String} {af:Array Edge} {gd:Option (Nat × Bool)} {l:List Value} (hb:isB gd ops.toList l=true) :
  Region.wanted ⟨d,op,ty,pos,af,gd⟩ (yielded ops (act l).tmps)=wantL ops.toList l gd:=by
 cases gd with
 | none=>rfl
 | some x =>
  obtain ⟨j,b⟩:=x
  simp only [isB,Bool.and_eq_true] at hb
  obtain ⟨h1,h2⟩:=hb
  have hj:=nthO_lt ops.toList j (inL_lt h1)
  simp only [Array.toArray_toList] at hj
  simp only [Region.wanted,wantL,yielded,hj,Option.bind_some]
  cases hd:(nthO ops.toList j).dst with
  | none=>rw [hd] at h2;cases h2
  | some t =>
   rw [hd] at h2
   simp only [Bool.and_eq_true] at h2
   have ht:=nth_lt l t (inL_lt h2.1)
   simp only [Option.bind_some,act]
   have ht':l.toArray[t]?=some (nth l t):=by simpa using ht
   rw [ht']
   cases hv:nth l t <;> rw [hv] at h2 <;> simp_all
def gv (ops:List Oper) (l:List Value) (gd:Nat × Bool):Option Bool :=
 match (nthO ops gd.1).dst with
 | some t=>match nth l t with
  | .bool c=>some c
  | _=>none
 | none=>none
theorem want_t {ops:List Oper} {l:List Value} {gd:Nat × Bool} {c:Bool} (hv:gv ops l gd=some c) (hc:c=gd.2):wantL ops l (some gd)=true:=by
 obtain ⟨j,b⟩:=gd
 unfold gv at hv;unfold wantL
 simp only at hv hc ⊢
 split at hv
 ·rename_i t ht
  split at hv
  ·rename_i c' hc';cases hv;simp [hc]
  ·cases hv
 ·cases hv
theorem want_f {ops:List Oper} {l:List Value} {gd:Nat × Bool} {c:Bool} (hv:gv ops l gd=some c) (hc:c=!gd.2):wantL ops l (some gd)=false:=by
 obtain ⟨j,b⟩:=gd
 unfold gv at hv;unfold wantL
 simp only at hv hc ⊢
 split at hv
 ·rename_i t ht
  split at hv
  ·rename_i c' hc';cases hv;cases b <;> simp_all
  ·cases hv
 ·cases hv
theorem want_u {ops:List Oper} {l:List Value} {gd:Nat × Bool} (hv:gv ops l gd=none):wantL ops l (some gd)=false:=by
 obtain ⟨j,b⟩:=gd
 unfold gv at hv;unfold wantL
 simp only at hv ⊢
 split at hv
 ·rename_i t ht
  split at hv
  ·cases hv
  ·first | rfl | (split <;> simp_all)
 ·rfl
section
variable {P:Program} {Q:Post} {l:List Value} {w:World} {ops:Array Oper} {rest:List Oper} {d:Option Tmp} {op:Op} {ty:TypeId} {pos:String} {af:Array Edge} {v:Value} {S:Nat→Prop} {r:List (Oper × Bool)} {gd:Nat × Bool}
theorem GT {c:Bool} (hb:isB (some gd) ops.toList l=true) (hv:gv ops.toList l gd=some c) (hc:c=gd.2) (h:WL P ops Q (⟨d,op,ty,pos,af,none⟩::rest) l w):WL P ops Q (⟨d,op,ty,pos,af,some gd⟩::rest) l w:=WL.gt ((want_eq hb).trans (want_t hv hc)) h
theorem GF {c:Bool} (hb:isB (some gd) ops.toList l=true) (hv:gv ops.toList l gd=some c) (hc:c=!gd.2) (h:WL P ops Q rest (put l d undef) w):WL P ops Q (⟨d,op,ty,pos,af,some gd⟩::rest) l w:=WL.gf ((want_eq hb).trans (want_f hv hc)) h
theorem GU (hb:isB (some gd) ops.toList l=true) (hv:gv ops.toList l gd=none) (h:WL P ops Q rest (put l d undef) w):WL P ops Q (⟨d,op,ty,pos,af,some gd⟩::rest) l w:=WL.gf ((want_eq hb).trans (want_u hv)) h
end
def oneV:Value→Bool
 | .agg _=>false
 | .tuple _=>false
 | _=>true
theorem oneV_cells {v:Value} (h:oneV v=true):v.cells=#[v]∧v.oneCell'=true:=by
 cases v <;> first | exact ⟨rfl,rfl⟩ | cases h
end Go.Xw
namespace Go.Xg
open Go.RowKit Go.Xw
inductive GV where
 | v (x:Value)
 | any
 | agg (cs:List GV)
 | tup (cs:List GV)
 | sl (k:Nat) (rows:List (List GV))
 | box (cs:List GV) (o:Nat)
 | loc (i o:Nat)
 | vec (i n:Nat)
 | vp (i n k idx off:Nat)
 | arr (i o n:Nat)
 | fn (f:Fn) (first cap:List GV)
abbrev Fz:=Nat→Nat→Option GV
inductive Bk where
 | no
 | fix (b:Nat)
 | gr (h:Value) (m:Nat)
def Bk.blk:Bk→Option Nat
 | .no=>none
 | .fix b=>some b
 | .gr h _=>h.ownBlock
abbrev Bt:=Nat→Bk
def KLe (K K':Fz):Prop:=∀ b o g,K b o=some g→K' b o=some g
def BkLe:Bk→Bk→Prop
 | .no,_=>True
 | .fix b,x=>x=.fix b
 | .gr h m,x=>∃ h' m',x=.gr h' m'∧m≤m'∧(m'=m→h'=h)
def BLe (β β':Bt):Prop:=∀ i,BkLe (β i) (β' i)
theorem KLe.refl (K:Fz):KLe K K:=fun _ _ _ h=>h
theorem KLe.trans {a b c:Fz} (h:KLe a b) (k:KLe b c):KLe a c:=fun x y z hz=>k x y z (h x y z hz)
theorem BkLe.refl (x:Bk):BkLe x x:=by cases x with | no=>trivial | fix b=>rfl | gr h m=>exact ⟨h,m,rfl,Nat.le_refl _,fun _=>rfl⟩
theorem BkLe.trans {a b c:Bk} (h:BkLe a b) (k:BkLe b c):BkLe a c:=by
 cases a with
 | no=>trivial
 | fix x=>cases h;exact k
 | gr x m =>
  obtain ⟨x',m',rfl,h1,h2⟩:=h
  obtain ⟨x2,m2,rfl,h3,h4⟩:=k
  exact ⟨x2,m2,rfl,Nat.le_trans h1 h3,fun he=>by
   have:m'=m:=by omega
   rw [h4 (by omega),h2 this]⟩
theorem BLe.refl (β:Bt):BLe β β:=fun i=>BkLe.refl _
theorem BLe.trans {a b c:Bt} (h:BLe a b) (k:BLe b c):BLe a c:=fun i=>(h i).trans (k i)
inductive Rel (K:Fz) (β:Bt):Value→GV→Prop
 | v (x:Value):Rel K β x (.v x)
 | any (x:Value):Rel K β x .any
 | agg (vs:List Value) (cs:List GV) (hl:vs.length=cs.length) (h:∀ (i:Nat) v g,vs[i]?=some v→cs[i]?=some g→Rel K β v g):Rel K β (.agg vs.toArray) (.agg cs)
 | tup (vs:List Value) (cs:List GV) (hl:vs.length=cs.length) (h:∀ (i:Nat) v g,vs[i]?=some v→cs[i]?=some g→Rel K β v g):Rel K β (.tuple vs.toArray) (.tup cs)
 | sl0 (a:Option Addr) (c k:Nat):Rel K β (.slice a 0 c) (.sl k [])
 | sl (b o c k:Nat) (rows:List (List GV)) (h:∀ (i:Nat) r,rows[i]?=some r→r.length=k∧∀ (j:Nat) g,r[j]?=some g→K b (o+i * k+j)=some g) (hc:rows.length≤c):Rel K β (.slice (some ⟨b,o,none⟩) rows.length c) (.sl k rows)
 | box (b o' o:Nat) (cs:List GV) (h:∀ (j:Nat) g,cs[j]?=some g→K b (o'+j)=some g):Rel K β (.pointer (some ⟨b,o'+o,none⟩)) (.box cs o)
 | loc (i o b:Nat) (h:β i=.fix b):Rel K β (.pointer (some ⟨b,o,none⟩)) (.loc i o)
 | vec (i n:Nat) (a:Option Addr) (c:Nat) (h:∃ h m,β i=.gr h m∧n≤m∧(m=n→.slice a n c=h)):Rel K β (.slice a n c) (.vec i n)
 | vp (i n k idx off:Nat) (x:Value) (h:∃ h m,β i=.gr h m∧n≤m∧(m=n→∃ b,h.ownBlock=some b∧x=.pointer (some ⟨b,idx * k+off,none⟩))):Rel K β x (.vp i n k idx off)
 | arr (i o n b c:Nat) (h:β i=.fix b):Rel K β (.slice (some ⟨b,o,none⟩) n c) (.arr i o n)
 | fn (f:Fn) (xs ys:List Value) (first cap:List GV) (hl:xs.length=first.length) (hl':ys.length=cap.length) (h:∀ (i:Nat) v g,xs[i]?=some v→first[i]?=some g→Rel K β v g)
   (h':∀ (i:Nat) v g,ys[i]?=some v→cap[i]?=some g→Rel K β v g):Rel K β (.func f xs.toArray ys.toArray) (.fn f first cap)
theorem Rel.mono {K K':Fz} {β β':Bt} {x:Value} {g:GV} (h:Rel K β x g) (hk:KLe K K') (hb:BLe β β'):Rel K' β' x g:=by
 induction h with
 | v x=>exact .v x
 | any x=>exact .any x
 | agg vs cs hl h ih=>exact .agg vs cs hl ih
 | tup vs cs hl h ih=>exact .tup vs cs hl ih
 | sl0 a c k=>exact .sl0 a c k
 | sl b o c k rows h hc=>exact .sl b o c k rows (fun i r hr=>⟨(h i r hr).1,fun j g hg=>hk _ _ _ ((h i r hr).2 j g hg)⟩) hc
 | box b o' o cs h=>exact .box b o' o cs fun j g hg=>hk _ _ _ (h j g hg)
 | loc i o b h=>exact .loc i o b (by have:=hb i;rw [h] at this;exact this)
 | vec i n a c h =>
  obtain ⟨h0,m,h1,h2,h3⟩:=h
  have h4:=hb i
  rw [h1] at h4
  obtain ⟨h',m',h5,h6,h7⟩:=h4
  exact .vec i n a c ⟨h',m',h5,by omega,fun he=>by rw [h7 (by omega)];exact h3 (by omega)⟩
 | vp i n k idx off x h =>
  obtain ⟨h0,m,h1,h2,h3⟩:=h
  have h4:=hb i
  rw [h1] at h4
  obtain ⟨h',m',h5,h6,h7⟩:=h4
  exact .vp i n k idx off x ⟨h',m',h5,by omega,fun he=>by rw [h7 (by omega)];exact h3 (by omega)⟩
 | arr i o n b c h=>exact .arr i o n b c (by have:=hb i;rw [h] at this;exact this)
 | fn f xs ys first cap hl hl' h h' ih ih'=>exact .fn f xs ys first cap hl hl' ih ih'
def GV.pc:GV→Bool
 | .v _=>true
 | .sl _ _=>true
 | .box _ _=>true
 | _=>false
theorem Rel.pc {K:Fz} {β β':Bt} {x:Value} {g:GV} (h:Rel K β x g) (hp:g.pc=true):Rel K β' x g:=by
 cases h <;> first | (cases hp;done) | skip
 ·exact .v _
 ·exact .sl0 _ _ _
 ·rename_i h hc;exact .sl _ _ _ _ _ h hc
 ·rename_i h;exact .box _ _ _ _ h
def GV.one:GV→Bool
 | .v x=>oneV x
 | .any=>false
 | .agg _=>false
 | .tup _=>false
 | .vp _ _ _ _ _=>false
 | _=>true
theorem Rel.one {K:Fz} {β:Bt} {x:Value} {g:GV} (h:Rel K β x g) (ho:g.one=true):oneV x=true:=by
 cases h <;> first | exact ho | rfl | (cases ho;done)
abbrev RelL (K:Fz) (β:Bt) (vs:List Value) (gs:List GV):Prop:=vs.length=gs.length∧∀ (i:Nat) v g,vs[i]?=some v→gs[i]?=some g→Rel K β v g
theorem RelL.mono {K K':Fz} {β β':Bt} {vs:List Value} {gs:List GV} (h:RelL K β vs gs) (hk:KLe K K') (hb:BLe β β'):RelL K' β' vs gs:=⟨h.1,fun i v g h1 h2=>(h.2 i v g h1 h2).mono hk hb⟩
theorem RelL.nil {K:Fz} {β:Bt}:RelL K β [] []:=⟨rfl,fun i v g h=>by simp at h⟩
theorem RelL.cons {K:Fz} {β:Bt} {v:Value} {g:GV} {vs:List Value} {gs:List GV} (h:Rel K β v g) (hs:RelL K β vs gs):RelL K β (v::vs) (g::gs):=by
 refine ⟨by simp [hs.1],fun i x y h1 h2=>?_⟩
 cases i with
 | zero=>cases h1;cases h2;exact h
 | succ i=>exact hs.2 i x y h1 h2
theorem RelL.uncons {K:Fz} {β:Bt} {v:Value} {g:GV} {vs:List Value} {gs:List GV} (h:RelL K β (v::vs) (g::gs)):Rel K β v g∧RelL K β vs gs :=
 ⟨h.2 0 v g rfl rfl,by simpa using h.1,fun i x y h1 h2=>h.2 (i+1) x y h1 h2⟩
theorem RelL.app {K:Fz} {β:Bt} {vs us:List Value} {gs hs:List GV} (h:RelL K β vs gs) (k:RelL K β us hs):RelL K β (vs++us) (gs++hs):=by
 induction vs generalizing gs with
 | nil =>
  have:gs=[]:=by have:=h.1;simp at this;exact List.eq_nil_of_length_eq_zero this.symm
  subst this;exact k
 | cons v vs ih =>
  cases gs with
  | nil=>have:=h.1;simp at this
  | cons g gs=>obtain ⟨h1,h2⟩:=h.uncons;exact .cons h1 (ih h2)
theorem RelL.at {K:Fz} {β:Bt} {vs:List Value} {gs:List GV} (h:RelL K β vs gs) {i:Nat} {g:GV} (hg:gs[i]?=some g):∃ v,vs[i]?=some v∧Rel K β v g:=by
 have hi:i < vs.length:=by rw [h.1];exact (List.getElem?_eq_some_iff.1 hg).1
 exact ⟨vs[i],by simp [hi],h.2 i _ g (by simp [hi]) hg⟩
theorem RelL.take {K:Fz} {β:Bt} {vs:List Value} {gs:List GV} (h:RelL K β vs gs) (n:Nat):RelL K β (vs.take n) (gs.take n):=by
 refine ⟨by simp [h.1],fun i x y h1 h2=>?_⟩
 rw [List.getElem?_take] at h1 h2
 split at h1
 ·rename_i hi;rw [if_pos hi] at h2;exact h.2 i x y h1 h2
 ·cases h1
theorem RelL.drop {K:Fz} {β:Bt} {vs:List Value} {gs:List GV} (h:RelL K β vs gs) (n:Nat):RelL K β (vs.drop n) (gs.drop n):=by
 refine ⟨by simp [h.1],fun i x y h1 h2=>?_⟩
 rw [List.getElem?_drop] at h1 h2
 exact h.2 _ x y h1 h2
def gnth:List GV→Nat→GV
 | [],_=>.any
 | g::_,0=>g
 | _::l,n+1=>gnth l n
def gupd:List GV→Nat→GV→List GV
 | [],_,_=>[]
 | _::l,0,g=>g::l
 | x::l,n+1,g=>x::gupd l n g
def gev (l:List GV):Operand→GV
 | .tmp t=>gnth l t
 | .const v=>.v v
 | .global g=>.v (.pointer (some ⟨g,0,none⟩))
 | .func f=>.v (.func (.func f) #[] #[])
def gput (l:List GV) (d:Option Tmp) (g:GV):List GV:=match d with | some d=>gupd l d g | none=>l
inductive FR (K:Fz) (β:Bt):List GV→List Value→Prop
 | nil:FR K β [] []
 | cons {g:GV} {v:Value} {gs:List GV} {vs:List Value} (h:Rel K β v g) (t:FR K β gs vs):FR K β (g::gs) (v::vs)
theorem FR.mono {K K':Fz} {β β':Bt} {gs:List GV} {vs:List Value} (h:FR K β gs vs) (hk:KLe K K') (hb:BLe β β'):FR K' β' gs vs:=by
 induction h with
 | nil=>exact .nil
 | cons h t ih=>exact .cons (h.mono hk hb) ih
theorem FR.nth {K:Fz} {β:Bt} {gs:List GV} {vs:List Value} (h:FR K β gs vs) (t:Nat):Rel K β (nth vs t) (gnth gs t):=by
 induction h generalizing t with
 | nil=>exact .any _
 | cons h _ ih=>cases t with | zero=>exact h | succ t=>exact ih t
theorem FR.ev {K:Fz} {β:Bt} {gs:List GV} {vs:List Value} (h:FR K β gs vs) (x:Operand):Rel K β (ev vs x) (gev gs x):=by
 cases x with
 | tmp t=>exact h.nth t
 | const v=>exact .v _
 | global g=>exact .v _
 | func f=>exact .v _
theorem FR.upd {K:Fz} {β:Bt} {gs:List GV} {vs:List Value} (h:FR K β gs vs) (t:Nat) {v:Value} {g:GV} (hv:Rel K β v g):FR K β (gupd gs t g) (upd vs t v):=by
 induction h generalizing t with
 | nil=>exact .nil
 | cons h ht ih=>cases t with | zero=>exact .cons hv ht | succ t=>exact .cons h (ih t)
theorem FR.put {K:Fz} {β:Bt} {gs:List GV} {vs:List Value} (h:FR K β gs vs) (d:Option Tmp) {v:Value} {g:GV} (hv:Rel K β v g):FR K β (gput gs d g) (put vs d v):=by
 cases d with | none=>exact h | some d=>exact h.upd d hv
theorem FR.args {K:Fz} {β:Bt} {gs:List GV} {vs:List Value} (h:FR K β gs vs) (xs:List Operand):RelL K β (xs.map (Xw.ev vs)) (xs.map (gev gs)):=by
 induction xs with
 | nil=>exact .nil
 | cons x xs ih=>exact .cons (h.ev x) ih
inductive Ob where
 | gone
 | box (E:TypeId) (cs:List GV)
 | vec (E:TypeId) (k fz:Nat) (rows:List (List GV))
 | vech (E:TypeId) (k:Nat) (rows:List (List GV)) (x:Value)
 | lost
def FzOk (K:Fz) (w:World):Prop:=∀ b o g,K b o=some g→g.pc=true∧∃ v,cellH w.heap b o=some v∧Rel K (fun _=>.no) v g
def rowsOk (k:Nat) (rows:List (List GV)):Prop:=∀ r∈rows,r.length=k∧∀ g∈r,g.pc=true
def ObOk (K:Fz) (β:Bt) (w:World) (i:Nat):Ob→Prop
 | .gone=>β i=.no
 | .box E cs=>∃ b vs,β i=.fix b∧w.heap[b]?=some (.cells vs.toArray E (0,0))∧RelL K β vs cs∧∀ o,K b o=none
 | .vec E k fz rows=>∃ h xs,β i=.gr h rows.length∧Own w 0 E k h rows.length xs∧RelL K β xs rows.flatten∧rowsOk k rows ∧
   (∀ b,h.ownBlock=some b→(∀ o,fz * k≤o→K b o=none)∧∀ o g,o < fz * k→rows.flatten[o]?=some g→K b o=some g)∧fz≤rows.length
 | .vech E k rows x=>∃ xs,β i=.gr x rows.length∧Own w 0 E k x rows.length xs∧RelL K β xs rows.flatten∧rowsOk k rows∧∀ b,x.ownBlock=some b→∀ o,K b o=none
 | .lost=>∀ b,(β i).blk=some b→b < w.heap.size
def pow10T:List Int:=(List.range 20).map fun i=>((10 ^ i:Nat):Int)
def spaceT:List Int:=(List.range 256).map fun i=>if i=9∨i=10∨i=11∨i=12∨i=13∨i=32 then 1 else 0
def KTab (m:Int):Fz:=fun b o =>
 if b=0 then (match o with | 0=>some (.v (.int .i64 m)) | _=>none)
 else if b=1 then pow10T[o]?.map fun z=>.v (.int .u64 z)
 else if b=2 then spaceT[o]?.map fun z=>.v (.int .u8 z)
 else none
def TabB (w:World) (b n:Nat):Prop:=∃ cs E z,w.heap[b]?=some (.cells cs E z)∧cs.size=n
theorem TabB.lt {w:World} {b n:Nat} (h:TabB w b n):b < w.heap.size:=by obtain ⟨cs,E,z,h,_⟩:=h;exact lt_of_blk h
structure Tabs (K:Fz) (β:Bt) (w:World):Prop where
 le:∃ m,KLe (KTab m) K
 pow:TabB w 1 20
 spc:TabB w 2 256
 free:∀ i b,(β i).blk=some b→b≠1∧b≠2
theorem Tabs.step {S:Nat→Prop} {K K':Fz} {β β':Bt} {w w':World} (h:Tabs K β w) (hx:Ext S w w') (hS:∀ b,S b→∃ i,(β i).blk=some b) (hk:KLe K K') (hβ:∀ i b,(β' i).blk=some b→(∃ j,(β j).blk=some b)∨w.heap.size≤b):Tabs K' β' w':=by
 obtain ⟨⟨m,h1⟩,h2,h3,h4⟩:=h
 have key:∀ {b n:Nat},TabB w b n→¬ S b→TabB w' b n:=fun ⟨cs,E,z,a,e⟩ hn=>⟨cs,E,z,hx.blk a hn,e⟩
 refine ⟨⟨m,h1.trans hk⟩,key h2 (fun hs=>?_),key h3 (fun hs=>?_),fun i b hb=>?_⟩
 ·obtain ⟨i,hi⟩:=hS _ hs;exact (h4 i _ hi).1 rfl
 ·obtain ⟨i,hi⟩:=hS _ hs;exact (h4 i _ hi).2 rfl
 ·rcases hβ i b hb with ⟨j,hj⟩ | hs
  ·exact h4 j b hj
  ·have:=h2.lt;have:=h3.lt;exact ⟨by omega,by omega⟩
structure Bs where
 w0:World
 foot:Nat→Prop
 K0:Fz
 β0:Bt
 m:Nat
structure Inv (B:Bs) (K:Fz) (β:Bt) (Γ:List Ob) (w:World):Prop where
 ext:Ext B.foot B.w0 w
 kle:KLe B.K0 K
 ble:BLe B.β0 β
 loc:∀ i,B.m≤i→B.β0 i=.no
 fz:FzOk K w
 ob:∀ i x,Γ[i]?=some x→ObOk K β w i x
 out:∀ i,Γ.length≤i→β i=.no
 dis:∀ i j b,(β i).blk=some b→(β j).blk=some b→i=j
 own:∀ i b,(β i).blk=some b→B.foot b∨B.w0.heap.size≤b
 kn:∀ b o g,K b o=some g→B.K0 b o=some g∨B.foot b∨B.w0.heap.size≤b
 tab:Tabs K β w
section
variable {B:Bs} {K:Fz} {β:Bt} {Γ:List Ob} {w:World}
theorem ObOk.lt {i:Nat} {x:Ob} (h:ObOk K β w i x) {b:Nat} (hb:(β i).blk=some b):b < w.heap.size:=by
 cases x with
 | gone=>simp only [ObOk] at h;rw [h] at hb;cases hb
 | box E cs =>
  obtain ⟨b',vs,h1,h2,_⟩:=h
  rw [h1] at hb;cases hb
  exact lt_of_blk h2
 | vec E k fz rows =>
  obtain ⟨h',xs,h1,h2,_⟩:=h
  rw [h1] at hb
  exact (h2.lt hb).2
 | vech E k rows x =>
  obtain ⟨xs,h1,h2,_⟩:=h
  rw [h1] at hb
  exact (h2.lt hb).2
 | lost=>exact h b hb
theorem Inv.lt (h:Inv B K β Γ w) {i b:Nat} (hb:(β i).blk=some b):b < w.heap.size:=by
 by_cases hi:i < Γ.length
 ·exact (h.ob i Γ[i] (by simp [hi])).lt hb
 ·rw [h.out i (by omega)] at hb;cases hb
theorem FzOk.lt (h:FzOk K w) {b o:Nat} {g:GV} (hg:K b o=some g):b < w.heap.size:=by
 obtain ⟨_,v,hv,_⟩:=h b o g hg
 exact cellH_lt hv
def blocks (β:Bt):Nat→Prop:=fun b=>∃ i,(β i).blk=some b
def cur (K:Fz) (β:Bt) (Γ:List Ob) (w:World):Bs:=⟨w,blocks β,K,β,Γ.length⟩
theorem Inv.here (h:Inv B K β Γ w):Inv (cur K β Γ w) K β Γ w :=
 ⟨Ext.refl w,KLe.refl K,BLe.refl β,h.out,h.fz,h.ob,h.out,h.dis,fun i b hb=>.inl ⟨i,hb⟩,fun _ _ _ h=>.inl h,h.tab⟩
theorem Inv.rebase {K':Fz} {β':Bt} {Γ' Γ0:List Ob} {w':World} (h:Inv B K β Γ w) (k:Inv (cur K β Γ0 w) K' β' Γ' w'):Inv B K' β' Γ' w' :=
 ⟨h.ext.step k.ext (fun j hj=>by obtain ⟨i,hi⟩:=hj;exact (h.own i j hi).symm),h.kle.trans k.kle,h.ble.trans k.ble,h.loc,k.fz,k.ob,k.out,k.dis,
  fun i b hb=>by
   rcases k.own i b hb with h1 | h1
   ·obtain ⟨j,hj⟩:=h1;exact h.own j b hj
   ·exact .inr (Nat.le_trans h.ext.size h1),
  fun b o g hg=>by
   rcases k.kn b o g hg with h1 | ⟨j,hj⟩ | h1
   ·exact h.kn b o g h1
   ·exact .inr (h.own j b hj)
   ·exact .inr (.inr (Nat.le_trans h.ext.size h1)),k.tab⟩
theorem ObOk.ext {S:Nat→Prop} {K':Fz} {β':Bt} {w':World} {i:Nat} {x:Ob} (h:ObOk K β w i x) (hx:Ext S w w') (hs:∀ b,(β i).blk=some b→¬ S b) (hk:KLe K K') (hb:BLe β β')
  (he:β' i=β i) (hn:∀ b o,(β i).blk=some b→K b o=none→K' b o=none):ObOk K' β' w' i x:=by
 cases x with
 | gone=>simp only [ObOk] at h ⊢;rw [he,h]
 | box E cs =>
  obtain ⟨b,vs,h1,h2,h3,h4⟩:=h
  have hbk:(β i).blk=some b:=by rw [h1];rfl
  exact ⟨b,vs,he.trans h1,hx.blk h2 (hs b hbk),h3.mono hk hb,fun o=>hn b o hbk (h4 o)⟩
 | vec E k fz rows =>
  obtain ⟨h',xs,h1,h2,h3,h4,h5,h6⟩:=h
  have hbk:∀ b,h'.ownBlock=some b→(β i).blk=some b:=fun b hb=>by rw [h1];exact hb
  exact ⟨h',xs,he.trans h1,h2.ext hx (fun b hb'=>hs b (hbk b hb')),h3.mono hk hb,h4,fun b hb'=>⟨fun o ho=>hn b o (hbk b hb') ((h5 b hb').1 o ho),fun o g ho hg=>hk _ _ _ ((h5 b hb').2 o g ho hg)⟩,h6⟩
 | vech E k rows x =>
  obtain ⟨xs,h1,h2,h3,h4,h5⟩:=h
  have hbk:∀ b,x.ownBlock=some b→(β i).blk=some b:=fun b hb=>by rw [h1];exact hb
  exact ⟨xs,he.trans h1,h2.ext hx (fun b hb'=>hs b (hbk b hb')),h3.mono hk hb,h4,fun b hb' o=>hn b o (hbk b hb') (h5 b hb' o)⟩
 | lost=>exact fun b hb'=>Nat.lt_of_lt_of_le (h b (by rw [←he];exact hb')) hx.size
theorem FzOk.ext {S:Nat→Prop} {w':World} (h:FzOk K w) (hx:Ext S w w') (hs:∀ b o g,K b o=some g→¬ S b):FzOk K w':=fun b o g hg=>by
 obtain ⟨h1,v,hv,hr⟩:=h b o g hg
 exact ⟨h1,v,hx.c hv (hs b o g hg),hr⟩
theorem Inv.same {w':World} (h:Inv B K β Γ w) (hx:Ext none' w w'):Inv B K β Γ w' :=
 ⟨h.ext.step hx (fun j hj=>hj.elim),h.kle,h.ble,h.loc,h.fz.ext hx (fun _ _ _ _ h=>h),fun i x hi=>(h.ob i x hi).ext hx (fun _ _ h=>h) (KLe.refl K) (BLe.refl β) rfl (fun _ _ _ h=>h),h.out,h.dis,h.own,h.kn,h.tab.step hx (fun _ h=>h.elim) (KLe.refl K) (fun i b h=>.inl ⟨i,h⟩)⟩
def resβ (p:Nat→Bool) (β:Bt):Bt:=fun i=>match p i with
 | true=>β i
 | false=>.no
theorem resβ_t {p:Nat→Bool} {β:Bt} {i:Nat} (h:p i=true):resβ p β i=β i:=by simp [resβ,h]
theorem resβ_f {p:Nat→Bool} {β:Bt} {i:Nat} (h:p i=false):resβ p β i=.no:=by simp [resβ,h]
end
end Go.Xg
namespace Go.Xg
open Go.RowKit Go.Xw
section
variable {B:Bs} {K:Fz} {β:Bt} {Γ:List Ob} {w:World}
def setβ (β:Bt) (i:Nat) (x:Bk):Bt:=fun j=>if j=i then x else β j
theorem setβ_same {i:Nat} {x:Bk}:setβ β i x i=x:=by simp [setβ]
theorem setβ_ne {i j:Nat} {x:Bk} (h:j≠i):setβ β i x j=β j:=by simp [setβ,h]
theorem setβ_blk {i j b:Nat} {x:Bk} (h:(setβ β i x j).blk=some b):x.blk=some b∨(β j).blk=some b:=by
 by_cases hj:j=i
 ·subst hj;rw [setβ_same] at h;exact .inl h
 ·rw [setβ_ne hj] at h;exact .inr h
theorem setβ_le {i:Nat} {x:Bk} (h:BkLe (β i) x):BLe β (setβ β i x):=fun j=>by
 by_cases hj:j=i
 ·subst hj;rw [setβ_same];exact h
 ·rw [setβ_ne hj];exact BkLe.refl _
theorem RelL.self {vs:List Value}:RelL K β vs (vs.map .v):=⟨by simp,fun i v g h1 h2=>by
 rw [List.getElem?_map,h1] at h2;cases h2;exact .v _⟩
theorem Inv.add {w':World} {b:Nat} {vs:List Value} {cs:List GV} {E:TypeId} (h:Inv B K β Γ w) (hn:New w w' b (.cells vs.toArray E)) (hr:RelL K β vs cs) :
  Inv B K (setβ β Γ.length (.fix b)) (Γ++[.box E cs]) w':=by
 have hno:β Γ.length=.no:=h.out _ (Nat.le_refl _)
 have hle:BLe β (setβ β Γ.length (.fix b)):=setβ_le (by rw [hno];trivial)
 have hlt:∀ i b',(β i).blk=some b'→b'≠b:=fun i b' hb'=>by have:=h.lt hb';have:=hn.fresh;omega
 have hK:∀ o,K b o=none:=fun o=>by
  cases hk:K b o with
  | none=>rfl
  | some g=>have:=h.fz.lt hk;have:=hn.fresh;omega
 refine ⟨h.ext.step hn.ext (fun j hj=>hj.elim),h.kle,h.ble.trans hle,h.loc,h.fz.ext hn.ext (fun _ _ _ _ h=>h),fun i x hi=>?_,fun i hi=>?_,fun i j b' hi hj=>?_,fun i b' hi=>?_,h.kn,h.tab.step hn.ext (fun _ h=>h.elim) (KLe.refl K) (fun i b2 hi=>by rcases setβ_blk hi with h1 | h1;(· cases h1;exact .inr (by have:=hn.fresh;omega));exact .inl ⟨i,h1⟩)⟩
 ·by_cases hil:i < Γ.length
  ·rw [List.getElem?_append_left hil] at hi
   have hne:i≠Γ.length:=by omega
   exact (h.ob i x hi).ext hn.ext (fun _ _ h=>h) (KLe.refl K) hle (setβ_ne hne) (fun _ _ _ h=>h)
  ·have:i=Γ.length:=by have:=(List.getElem?_eq_some_iff.1 hi).1;simp at this;omega
   subst this
   simp at hi;subst hi
   exact ⟨b,vs,setβ_same,hn.blk,hr.mono (KLe.refl K) hle,hK⟩
 ·simp at hi
  rw [setβ_ne (by omega)];exact h.out i (by omega)
 ·by_cases h1:i=Γ.length <;> by_cases h2:j=Γ.length
  ·omega
  ·subst h1;rw [setβ_same] at hi;rw [setβ_ne h2] at hj;cases hi;exact absurd rfl (hlt j _ hj)
  ·subst h2;rw [setβ_same] at hj;rw [setβ_ne h1] at hi;cases hj;exact absurd rfl (hlt i _ hi)
  ·rw [setβ_ne h1] at hi;rw [setβ_ne h2] at hj;exact h.dis i j b' hi hj
 ·by_cases h1:i=Γ.length
  ·subst h1;rw [setβ_same] at hi;cases hi
   exact .inr (by have:=hn.fresh;have:=h.ext.size;omega)
  ·rw [setβ_ne h1] at hi;exact h.own i b' hi
theorem Inv.addV {w':World} {E k:Nat} {x:Value} {xs:List Value} {rows:List (List GV)} (h:Inv B K β Γ w) (hx:Ext none' w w') (ho:Own w' 0 E k x rows.length xs) (hf:∀ b,x.ownBlock=some b→w.heap.size≤b)
  (hr:RelL K β xs rows.flatten) (hk:rowsOk k rows):Inv B K (setβ β Γ.length (.gr x rows.length)) (Γ++[.vec E k 0 rows]) w':=by
 have hno:β Γ.length=.no:=h.out _ (Nat.le_refl _)
 have hle:BLe β (setβ β Γ.length (.gr x rows.length)):=setβ_le (by rw [hno];trivial)
 have hlt:∀ i b',(β i).blk=some b'→x.ownBlock≠some b':=fun i b' hb' he=>by have:=h.lt hb';have:=hf b' he;omega
 have hK:∀ b,x.ownBlock=some b→∀ o,K b o=none:=fun b hb o=>by
  cases hk:K b o with
  | none=>rfl
  | some g=>have:=h.fz.lt hk;have:=hf b hb;omega
 refine ⟨h.ext.step hx (fun j hj=>hj.elim),h.kle,h.ble.trans hle,h.loc,h.fz.ext hx (fun _ _ _ _ h=>h),fun i y hi=>?_,fun i hi=>?_,fun i j b' hi hj=>?_,fun i b' hi=>?_,h.kn,h.tab.step hx (fun _ h=>h.elim) (KLe.refl K) (fun i b2 hi=>by rcases setβ_blk hi with h1 | h1;(· exact .inr (hf b2 h1));exact .inl ⟨i,h1⟩)⟩
 ·by_cases hil:i < Γ.length
  ·rw [List.getElem?_append_left hil] at hi
   have hne:i≠Γ.length:=by omega
   exact (h.ob i y hi).ext hx (fun _ _ h=>h) (KLe.refl K) hle (setβ_ne hne) (fun _ _ _ h=>h)
  ·have:i=Γ.length:=by have:=(List.getElem?_eq_some_iff.1 hi).1;simp at this;omega
   subst this
   simp at hi;subst hi
   exact ⟨x,xs,setβ_same,ho,hr.mono (KLe.refl K) hle,hk,fun b hb=>⟨fun o _=>hK b hb o,fun o g ho _=>by omega⟩,Nat.zero_le _⟩
 ·simp at hi
  rw [setβ_ne (by omega)];exact h.out i (by omega)
 ·by_cases h1:i=Γ.length <;> by_cases h2:j=Γ.length
  ·omega
  ·subst h1;rw [setβ_same] at hi;rw [setβ_ne h2] at hj;exact absurd hi (hlt j _ hj)
  ·subst h2;rw [setβ_same] at hj;rw [setβ_ne h1] at hi;exact absurd hj (hlt i _ hi)
  ·rw [setβ_ne h1] at hi;rw [setβ_ne h2] at hj;exact h.dis i j b' hi hj
 ·by_cases h1:i=Γ.length
  ·subst h1;rw [setβ_same] at hi
   exact .inr (Nat.le_trans h.ext.size (hf b' hi))
  ·rw [setβ_ne h1] at hi;exact h.own i b' hi
def addK (K:Fz) (b:Nat) (cs:List GV):Fz:=fun b' o=>if b'=b then cs[o]? else K b' o
theorem addK_at {b o:Nat} {cs:List GV} {g:GV} (h:cs[o]?=some g):addK K b cs b o=some g:=by simp [addK,h]
theorem Inv.freezeNew {w':World} {b:Nat} {vs:List Value} {cs:List GV} {E:TypeId} (h:Inv B K β Γ w) (hn:New w w' b (.cells vs.toArray E)) (hr:RelL K β vs cs) (hp:∀ g∈cs,g.pc=true) :
  KLe K (addK K b cs)∧Inv B (addK K b cs) β Γ w':=by
 have hKb:∀ o,K b o=none:=fun o=>by
  cases hk:K b o with
  | none=>rfl
  | some g=>have:=h.fz.lt hk;have:=hn.fresh;omega
 have hle:KLe K (addK K b cs):=fun b' o g hg=>by
  by_cases hb:b'=b
  ·subst hb;rw [hKb] at hg;cases hg
  ·simp [addK,hb,hg]
 refine ⟨hle,h.ext.step hn.ext (fun j hj=>hj.elim),h.kle.trans hle,h.ble,h.loc,fun b' o g hg=>?_,fun i x hi=>?_,h.out,h.dis,h.own,fun b' o g hg=>?_,h.tab.step hn.ext (fun _ h=>h.elim) hle (fun i b2 h=>.inl ⟨i,h⟩)⟩
 ·by_cases hb:b'=b
  ·subst hb
   simp [addK] at hg
   obtain ⟨v,hv,hrel⟩:=hr.at hg
   have hpc:=hp g (List.mem_of_getElem? hg)
   exact ⟨hpc,v,c_of_blk hn.blk (by simpa using hv),(hrel.mono hle (BLe.refl β)).pc hpc⟩
  ·have hg':K b' o=some g:=by simpa [addK,hb] using hg
   obtain ⟨h1,v,h2,h3⟩:=h.fz b' o g hg'
   exact ⟨h1,v,hn.ext.c h2 (fun h=>h),h3.mono hle (BLe.refl _)⟩
 ·refine (h.ob i x hi).ext hn.ext (fun _ _ h=>h) hle (BLe.refl β) rfl (fun b' o hb hk=>?_)
  have:b'≠b:=by have:=h.lt hb;have:=hn.fresh;omega
  simp [addK,this,hk]
 ·by_cases hb:b'=b
  ·exact .inr (.inr (by have:=hn.fresh;have:=h.ext.size;omega))
  ·exact h.kn b' o g (by simpa [addK,hb] using hg)
theorem Inv.store {w':World} {i b:Nat} {E:TypeId} {cs cs':List GV} {vs':List Value} (h:Inv B K β Γ w) (hi:Γ[i]?=some (.box E cs)) (hb:β i=.fix b) (hs:Sto w w' b vs'.toArray E)
  (hr:RelL K β vs' cs'):Inv B K β (Γ.set i (.box E cs')) w':=by
 obtain ⟨b0,vs,h1,h2,h3,h4⟩:=h.ob i _ hi
 rw [hb] at h1;cases h1
 have hbk:(β i).blk=some b:=by rw [hb];rfl
 refine ⟨h.ext.step hs.ext (fun j hj=>?_),h.kle,h.ble,h.loc,h.fz.ext hs.ext (fun b' o g hg he=>?_),fun j x hj=>?_,fun j hj=>h.out j (by simpa using hj),h.dis,h.own,h.kn,h.tab.step hs.ext (fun j hj=>⟨i,by subst hj;exact hbk⟩) (KLe.refl K) (fun i b2 h=>.inl ⟨i,h⟩)⟩
 ·subst hj;exact (h.own i _ hbk).symm
 ·subst he;rw [h4] at hg;cases hg
 ·rw [List.getElem?_set] at hj
  split at hj
  ·rename_i hij
   split at hj
   ·cases hj;subst hij
    exact ⟨b,vs',hb,hs.blk,hr,h4⟩
   ·cases hj
  ·rename_i hij
   refine (h.ob j x hj).ext hs.ext (fun b' hb' he=>?_) (KLe.refl K) (BLe.refl β) rfl (fun _ _ _ h=>h)
   subst he
   exact hij (h.dis i j _ hbk hb')
def grK (K:Fz) (x:Value) (n:Nat) (fl:List GV):Fz:=fun b o=>if x.ownBlock=some b∧o < n then fl[o]? else K b o
theorem grK_t {x:Value} {n b o:Nat} {fl:List GV} (h1:x.ownBlock=some b) (h2:o < n):grK K x n fl b o=fl[o]?:=by unfold grK;rw [if_pos ⟨h1,h2⟩]
theorem grK_f {x:Value} {n b o:Nat} {fl:List GV} (h:¬ (x.ownBlock=some b∧o < n)):grK K x n fl b o=K b o:=by unfold grK;rw [if_neg h]
theorem grK_or {x:Value} {n b o:Nat} {fl:List GV} {g:GV} (h:grK K x n fl b o=some g):(x.ownBlock=some b∧o < n∧fl[o]?=some g)∨(¬ (x.ownBlock=some b∧o < n)∧K b o=some g):=by
 by_cases hc:x.ownBlock=some b∧o < n
 ·rw [grK_t hc.1 hc.2] at h;exact .inl ⟨hc.1,hc.2,h⟩
 ·rw [grK_f hc] at h;exact .inr ⟨hc,h⟩
theorem Inv.grow {w':World} {i:Nat} {E k fz:Nat} {rows news:List (List GV)} {h0 x:Value} {xs ns:List Value} (h:Inv B K β Γ w) (hi:Γ[i]?=some (.vec E k fz rows)) (hb:β i=.gr h0 rows.length)
  (hxs:Own w 0 E k h0 rows.length xs∧RelL K β xs rows.flatten) (ho:Own w' 0 E k x (rows.length+news.length) (xs++ns)) (hx:Ext (fun b=>h0.ownBlock=some b) w w') (hf:∀ b,x.ownBlock=some b→h0.ownBlock=some b∨w.heap.size≤b)
  (hr:RelL K β ns news.flatten) (hk:rowsOk k news) (hne:news≠[]) (hcell:∀ b,h0.ownBlock=some b→∀ o v,o < fz * k→cellH w.heap b o=some v→cellH w'.heap b o=some v) :
  ∃ K',KLe K K'∧BLe β (setβ β i (.gr x (rows++news).length))∧Inv B K' (setβ β i (.gr x (rows++news).length)) (Γ.set i (.vec E k fz (rows++news))) w':=by
 obtain ⟨h0',xs',h1,h2,h3,h4,h5,h6⟩:=h.ob i _ hi
 rw [hb] at h1;cases h1
 clear h2 h3
 have hlen:news.length≠0:=fun h=>hne (List.eq_nil_of_length_eq_zero h)
 have hle:BLe β (setβ β i (.gr x (rows++news).length)):=setβ_le (by rw [hb];exact ⟨x,_,rfl,by simp,fun he=>by rw [List.length_append] at he;omega⟩)
 have hbk0:∀ b,h0.ownBlock=some b→(β i).blk=some b:=fun b hb'=>by rw [hb];exact hb'
 have hflen:rows.flatten.length=rows.length * k:=by rw [←hxs.2.1];exact hxs.1.1
 have hfzl:fz * k≤rows.flatten.length:=by rw [hflen];exact Nat.mul_le_mul_right k h6
 have hKl:KLe K (grK K x (fz * k) rows.flatten):=fun b o g hg=>by
  by_cases hc:x.ownBlock=some b∧o < fz * k
  ·rw [grK_t hc.1 hc.2]
   rcases hf b hc.1 with h7 | h7
   ·have hsome:o < rows.flatten.length:=by omega
    have:=(h5 b h7).2 o rows.flatten[o] hc.2 (by simp [hsome])
    rw [this] at hg;cases hg;simp [hsome]
   ·have:=h.fz.lt hg;omega
  ·rw [grK_f hc];exact hg
 refine ⟨grK K x (fz * k) rows.flatten,hKl,hle,h.ext.step hx (fun j hj=>(h.own i j (hbk0 j hj)).symm),h.kle.trans hKl,h.ble.trans hle,h.loc,fun b o g hg=>?_,fun j y hj=>?_,fun j hj=>?_,fun j j' b hj hj'=>?_,fun j b hj=>?_,fun b o g hg=>?_,h.tab.step hx (fun j hj=>⟨i,hbk0 j hj⟩) hKl (fun j b2 hi=>by rcases setβ_blk hi with h1 | h1;(· exact (hf b2 h1).imp (fun h2=>⟨i,hbk0 b2 h2⟩) id);exact .inl ⟨j,h1⟩)⟩
 ·rcases grK_or hg with ⟨hb',ho',hg⟩ | ⟨hc,hg⟩
  ·have hpc:g.pc=true:=by
    obtain ⟨r,hr1,hr2⟩:=List.mem_flatten.1 (List.mem_of_getElem? hg)
    exact (h4 r hr1).2 g hr2
   obtain ⟨v,hv,hrel⟩:=hxs.2.at hg
   obtain ⟨b2,c,hxv,_,_,hc2⟩:=ho.cells.2 (by intro h0;have:xs=[]:=(List.append_eq_nil_iff.1 h0).1;rw [this] at hv;simp at hv)
   have hb2:b2=b:=by rw [hxv] at hb';cases hb';rfl
   subst hb2
   have hlt:o < xs.length:=(List.getElem?_eq_some_iff.1 hv).1
   refine ⟨hpc,v,?_,(hrel.mono hKl hle).pc hpc⟩
   rw [←cell_eq];exact hc2 o v (by rw [List.getElem?_append_left hlt];exact hv)
  ·obtain ⟨hp,v,hv,hrel⟩:=h.fz b o g hg
   refine ⟨hp,v,?_,hrel.mono hKl (BLe.refl _)⟩
   by_cases h7:h0.ownBlock=some b
   ·by_cases h8:o < fz * k
    ·exact hcell b h7 o v h8 hv
    ·rw [(h5 b h7).1 o (by omega)] at hg;cases hg
   ·exact hx.c hv h7
 ·rw [List.getElem?_set] at hj
  split at hj
  ·rename_i hij
   split at hj
   ·cases hj;subst hij
    refine ⟨x,xs++ns,setβ_same,by simpa using ho,?_,?_,fun b hb'=>⟨fun o ho'=>?_,fun o g ho' hg=>?_⟩,by simp;omega⟩
    ·rw [List.flatten_append];exact (hxs.2.mono hKl hle).app (hr.mono hKl hle)
    ·intro r hr'
     rcases List.mem_append.1 hr' with h7 | h7
     ·exact h4 r h7
     ·exact hk r h7
    ·rw [grK_f (by omega)]
     rcases hf b hb' with h7 | h7
     ·exact (h5 b h7).1 o ho'
     ·cases hk':K b o with
      | none=>rfl
      | some g=>have:=h.fz.lt hk';omega
    ·rw [grK_t hb' ho']
     rw [List.flatten_append,List.getElem?_append_left (by omega)] at hg;exact hg
   ·cases hj
  ·rename_i hij
   refine (h.ob j y hj).ext hx (fun b hb' he=>?_) hKl hle (setβ_ne (fun he=>hij he.symm)) (fun b o hb' hk'=>?_)
   ·exact hij (h.dis i j b (hbk0 b he) hb')
   ·rw [grK_f];exact hk'
    rintro ⟨h7,_⟩
    rcases hf b h7 with h8 | h8
    ·exact hij (h.dis i j b (hbk0 b h8) hb')
    ·have:=h.lt hb';omega
 ·have hj':Γ.length≤j:=by simpa using hj
  have:i < Γ.length:=(List.getElem?_eq_some_iff.1 hi).1
  rw [setβ_ne (by omega)];exact h.out j hj'
 ·have key:∀ j b,j≠i→(β j).blk=some b→x.ownBlock≠some b:=fun j b hne' hb' he=>by
   rcases hf b he with h7 | h7
   ·exact hne' (h.dis j i b hb' (hbk0 b h7))
   ·have:=h.lt hb';omega
  by_cases h1:j=i <;> by_cases h2:j'=i
  ·omega
  ·subst h1;rw [setβ_same] at hj;rw [setβ_ne h2] at hj';exact absurd hj (key j' b h2 hj')
  ·subst h2;rw [setβ_same] at hj';rw [setβ_ne h1] at hj;exact absurd hj' (key j b h1 hj)
  ·rw [setβ_ne h1] at hj;rw [setβ_ne h2] at hj';exact h.dis j j' b hj hj'
 ·by_cases h1:j=i
  ·subst h1;rw [setβ_same] at hj
   rcases hf b hj with h7 | h7
   ·exact h.own j b (hbk0 b h7)
   ·exact .inr (Nat.le_trans h.ext.size h7)
  ·rw [setβ_ne h1] at hj;exact h.own j b hj
 ·rcases grK_or hg with ⟨hb',_,_⟩ | ⟨_,hg⟩
  ·rcases hf b hb' with h7 | h7
   ·exact .inr (h.own i b (hbk0 b h7))
   ·exact .inr (.inr (Nat.le_trans h.ext.size h7))
  ·exact h.kn b o g hg
theorem Inv.snap {i E k fz:Nat} {rows:List (List GV)} (h:Inv B K β Γ w) (hi:Γ[i]?=some (.vec E k fz rows)) :
  ∃ K',KLe K K'∧(∀ x b,β i=.gr x rows.length→x.ownBlock=some b→∀ (o:Nat) g,rows.flatten[o]?=some g→K' b o=some g)∧Inv B K' β (Γ.set i (.vec E k rows.length rows)) w:=by
 obtain ⟨x,xs,h1,h2,h3,h4,h5,h6⟩:=h.ob i _ hi
 have hflen:rows.flatten.length=rows.length * k:=by rw [←h3.1];exact h2.1
 have hbk:∀ b,x.ownBlock=some b→(β i).blk=some b:=fun b hb=>by rw [h1];exact hb
 have hle:KLe K (grK K x (rows.length * k) rows.flatten):=fun b o g hg=>by
  by_cases hc:x.ownBlock=some b∧o < rows.length * k
  ·rw [grK_t hc.1 hc.2]
   have hlt:o < rows.flatten.length:=by omega
   by_cases ho:o < fz * k
   ·have:=(h5 b hc.1).2 o rows.flatten[o] ho (by simp [hlt])
    rw [this] at hg;cases hg;simp [hlt]
   ·rw [(h5 b hc.1).1 o (by omega)] at hg;cases hg
  ·rw [grK_f hc];exact hg
 refine ⟨grK K x (rows.length * k) rows.flatten,hle,fun x' b hx' hb o g hg=>?_,h.ext,h.kle.trans hle,h.ble,h.loc,fun b o g hg=>?_,fun j y hj=>?_,fun j hj=>h.out j (by simpa using hj),h.dis,h.own,fun b o g hg=>?_,h.tab.step (S:=none') (Ext.refl w) (fun _ h=>h.elim) hle (fun i b2 h=>.inl ⟨i,h⟩)⟩
 ·rw [h1] at hx';cases hx'
  rw [grK_t hb (by rw [←hflen];exact (List.getElem?_eq_some_iff.1 hg).1)];exact hg
 ·rcases grK_or hg with ⟨hb',ho',hg⟩ | ⟨hc,hg⟩
  ·have hpc:g.pc=true:=by
    obtain ⟨r,hr1,hr2⟩:=List.mem_flatten.1 (List.mem_of_getElem? hg)
    exact (h4 r hr1).2 g hr2
   obtain ⟨v,hv,hrel⟩:=h3.at hg
   obtain ⟨b2,c,hxv,_,_,hc2⟩:=h2.cells.2 (by intro h0;rw [h0] at hv;simp at hv)
   have hb2:b2=b:=by rw [hxv] at hb';cases hb';rfl
   subst hb2
   exact ⟨hpc,v,by rw [←cell_eq];exact hc2 o v hv,(hrel.mono hle (BLe.refl β)).pc hpc⟩
  ·obtain ⟨h7,v,h8,h9⟩:=h.fz b o g hg
   exact ⟨h7,v,h8,h9.mono hle (BLe.refl _)⟩
 ·rw [List.getElem?_set] at hj
  split at hj
  ·rename_i hij
   split at hj
   ·cases hj;subst hij
    refine ⟨x,xs,h1,h2,h3.mono hle (BLe.refl β),h4,fun b hb=>⟨fun o ho=>?_,fun o g ho hg=>?_⟩,Nat.le_refl _⟩
    ·rw [grK_f (by omega)]
     exact (h5 b hb).1 o (Nat.le_trans (Nat.mul_le_mul_right k h6) ho)
    ·rw [grK_t hb ho];exact hg
   ·cases hj
  ·rename_i hij
   refine (h.ob j y hj).ext (Ext.refl w) (fun _ _ h=>h) hle (BLe.refl β) rfl (fun b o hb' hk'=>?_) (S:=none')
   rw [grK_f];exact hk'
   rintro ⟨h7,_⟩
   exact hij (h.dis i j b (hbk b h7) hb')
 ·rcases grK_or hg with ⟨hb',_,_⟩ | ⟨_,hg⟩
  ·exact .inr (h.own i b (hbk b hb'))
  ·exact h.kn b o g hg
end
end Go.Xg
namespace Go.Xg
open Go.RowKit Go.Xw
mutual
def ren (f:Nat→Nat):GV→GV
 | .v x=>.v x
 | .any=>.any
 | .agg cs=>.agg (renL f cs)
 | .tup cs=>.tup (renL f cs)
 | .sl k rows=>.sl k rows
 | .box cs o=>.box cs o
 | .loc i o=>.loc (f i) o
 | .vec i n=>.vec (f i) n
 | .vp i n k idx off=>.vp (f i) n k idx off
 | .arr i o n=>.arr (f i) o n
 | .fn g a c=>.fn g (renL f a) (renL f c)
def renL (f:Nat→Nat):List GV→List GV
 | []=>[]
 | g::gs=>ren f g::renL f gs
end
theorem renL_map (f:Nat→Nat) (gs:List GV):renL f gs=gs.map (ren f):=by
 induction gs with
 | nil=>rfl
 | cons g gs ih=>simp [renL,ih]
theorem Rel.to_ren {K:Fz} {β:Bt} {f:Nat→Nat} {x:Value} {g:GV} (h:Rel K (fun j=>β (f j)) x g):Rel K β x (ren f g):=by
 induction h with
 | v x=>exact .v x
 | any x=>exact .any x
 | agg vs cs hl h ih =>
  rw [ren,renL_map]
  refine .agg vs _ (by simpa using hl) fun i v g h1 h2=>?_
  rw [List.getElem?_map] at h2
  cases hc:cs[i]? with
  | none=>rw [hc] at h2;cases h2
  | some c=>rw [hc] at h2;cases h2;exact ih i v c h1 hc
 | tup vs cs hl h ih =>
  rw [ren,renL_map]
  refine .tup vs _ (by simpa using hl) fun i v g h1 h2=>?_
  rw [List.getElem?_map] at h2
  cases hc:cs[i]? with
  | none=>rw [hc] at h2;cases h2
  | some c=>rw [hc] at h2;cases h2;exact ih i v c h1 hc
 | sl0 a c k=>exact .sl0 a c k
 | sl b o c k rows h hc=>exact .sl b o c k rows h hc
 | box b o' o cs h=>exact .box b o' o cs h
 | loc i o b h=>exact .loc _ o b h
 | vec i n a c h=>exact .vec _ n a c h
 | vp i n k idx off x h=>exact .vp _ n k idx off x h
 | arr i o n b c h=>exact .arr _ o n b c h
 | fn g xs ys first cap hl hl' h h' ih ih' =>
  rw [ren,renL_map,renL_map]
  refine .fn g xs ys _ _ (by simpa using hl) (by simpa using hl') (fun i v g h1 h2=>?_) (fun i v g h1 h2=>?_)
  ·rw [List.getElem?_map] at h2
   cases hc:first[i]? with
   | none=>rw [hc] at h2;cases h2
   | some c=>rw [hc] at h2;cases h2;exact ih i v c h1 hc
  ·rw [List.getElem?_map] at h2
   cases hc:cap[i]? with
   | none=>rw [hc] at h2;cases h2
   | some c=>rw [hc] at h2;cases h2;exact ih' i v c h1 hc
theorem Rel.of_ren {K:Fz} {β:Bt} {f:Nat→Nat} {x:Value} {g:GV} (h:Rel K β x (ren f g)):Rel K (fun j=>β (f j)) x g:=by
 generalize he:ren f g=g' at h
 induction h generalizing g with
 | v x =>
  cases g <;> simp only [ren] at he <;> first | (cases he;done) | skip
  cases he;exact .v x
 | any x =>
  cases g <;> simp only [ren] at he <;> first | (cases he;done) | skip
  exact .any x
 | agg vs cs hl h ih =>
  cases g <;> simp only [ren] at he <;> first | (cases he;done) | skip
  rename_i ds;rw [renL_map] at he;cases he
  exact .agg vs ds (by simpa using hl) fun i v g h1 h2=>ih i v (ren f g) h1 (by rw [List.getElem?_map,h2];rfl) rfl
 | tup vs cs hl h ih =>
  cases g <;> simp only [ren] at he <;> first | (cases he;done) | skip
  rename_i ds;rw [renL_map] at he;cases he
  exact .tup vs ds (by simpa using hl) fun i v g h1 h2=>ih i v (ren f g) h1 (by rw [List.getElem?_map,h2];rfl) rfl
 | sl0 a c k =>
  cases g <;> simp only [ren] at he <;> first | (cases he;done) | skip
  cases he;exact .sl0 a c _
 | sl b o c k rows h hc =>
  cases g <;> simp only [ren] at he <;> first | (cases he;done) | skip
  cases he;exact .sl b o c k rows h hc
 | box b o' o cs h =>
  cases g <;> simp only [ren] at he <;> first | (cases he;done) | skip
  cases he;exact .box b o' o cs h
 | loc i o b h =>
  cases g <;> simp only [ren] at he <;> first | (cases he;done) | skip
  cases he;exact .loc _ o b h
 | vec i n a c h =>
  cases g <;> simp only [ren] at he <;> first | (cases he;done) | skip
  cases he;exact .vec _ n a c h
 | vp i n k idx off x h =>
  cases g <;> simp only [ren] at he <;> first | (cases he;done) | skip
  cases he;exact .vp _ n k idx off x h
 | arr i o n b c h =>
  cases g <;> simp only [ren] at he <;> first | (cases he;done) | skip
  cases he;exact .arr _ o n b c h
 | fn g' xs ys first cap hl hl' h h' ih ih' =>
  cases g <;> simp only [ren] at he <;> first | (cases he;done) | skip
  rename_i f' ds es;rw [renL_map,renL_map] at he;cases he
  exact .fn _ xs ys ds es (by simpa using hl) (by simpa using hl') (fun i v g h1 h2=>ih i v (ren f g) h1 (by rw [List.getElem?_map,h2];rfl) rfl)
   (fun i v g h1 h2=>ih' i v (ren f g) h1 (by rw [List.getElem?_map,h2];rfl) rfl)
mutual
def GV.ok (p:Nat→Bool):GV→Bool
 | .loc i _=>p i
 | .vec i _=>p i
 | .vp i _ _ _ _=>p i
 | .arr i _ _=>p i
 | .agg cs=>okL p cs
 | .tup cs=>okL p cs
 | .fn _ a c=>okL p a&&okL p c
 | .v _=>true
 | .any=>true
 | .sl _ _=>true
 | .box _ _=>true
def okL (p:Nat→Bool):List GV→Bool
 | []=>true
 | g::gs=>GV.ok p g&&okL p gs
end
def below (n:Nat):Nat→Bool:=fun i=>Nat.blt i n
def other (n:Nat):Nat→Bool:=fun i=>!Nat.beq i n
abbrev GV.lt (n:Nat) (g:GV):Bool:=g.ok (below n)
theorem okL_mem {p:Nat→Bool} {gs:List GV} (h:okL p gs=true) {g:GV} (hg:g∈gs):g.ok p=true:=by
 induction gs with
 | nil=>cases hg
 | cons x gs ih =>
  simp only [okL,Bool.and_eq_true] at h
  rcases List.mem_cons.1 hg with rfl | hg
  ·exact h.1
  ·exact ih h.2 hg
theorem Rel.res {K:Fz} {β:Bt} {p:Nat→Bool} {x:Value} {g:GV} (h:Rel K β x g) (hl:g.ok p=true):Rel K (resβ p β) x g:=by
 induction h with
 | v x=>exact .v x
 | any x=>exact .any x
 | agg vs cs hll h ih=>simp only [GV.ok] at hl;exact .agg vs cs hll fun i v g h1 h2=>ih i v g h1 h2 (okL_mem hl (List.mem_of_getElem? h2))
 | tup vs cs hll h ih=>simp only [GV.ok] at hl;exact .tup vs cs hll fun i v g h1 h2=>ih i v g h1 h2 (okL_mem hl (List.mem_of_getElem? h2))
 | sl0 a c k=>exact .sl0 a c k
 | sl b o c k rows h hc=>exact .sl b o c k rows h hc
 | box b o' o cs h=>exact .box b o' o cs h
 | loc i o b h=>simp only [GV.ok] at hl;exact .loc _ o b (by rw [resβ_t hl,h])
 | vec i m a c h=>simp only [GV.ok] at hl;exact .vec _ m a c (by rw [resβ_t hl];exact h)
 | vp i m k idx off x h=>simp only [GV.ok] at hl;exact .vp _ m k idx off x (by rw [resβ_t hl];exact h)
 | arr i o m b c h=>simp only [GV.ok] at hl;exact .arr _ o m b c (by rw [resβ_t hl,h])
 | fn g' xs ys first cap hll hl' h h' ih ih' =>
  simp only [GV.ok,Bool.and_eq_true] at hl
  exact .fn _ xs ys first cap hll hl' (fun i v g h1 h2=>ih i v g h1 h2 (okL_mem hl.1 (List.mem_of_getElem? h2))) (fun i v g h1 h2=>ih' i v g h1 h2 (okL_mem hl.2 (List.mem_of_getElem? h2)))
def Ob.ok (p:Nat→Bool):Ob→Bool
 | .box _ cs=>okL p cs
 | _=>true
def Ob.ren (f:Nat→Nat):Ob→Ob
 | .box E cs=>.box E (renL f cs)
 | x=>x
def oOk (p:Nat→Bool):List Ob→Bool
 | []=>true
 | x::r=>Ob.ok p x&&oOk p r
abbrev oLt (n:Nat) (Γ:List Ob):Bool:=oOk (below n) Γ
theorem oOk_mem {p:Nat→Bool} {gs:List Ob} (h:oOk p gs=true) {g:Ob} (hg:g∈gs):g.ok p=true:=by
 induction gs with
 | nil=>cases hg
 | cons x gs ih =>
  simp only [oOk,Bool.and_eq_true] at h
  rcases List.mem_cons.1 hg with rfl | hg
  ·exact h.1
  ·exact ih h.2 hg
def resF (p:Nat→Bool):List GV→List GV
 | []=>[]
 | g::gs=>(match GV.ok p g with | true=>g | false=>.any)::resF p gs
abbrev cutF (n:Nat) (fr:List GV):List GV:=resF (below n) fr
theorem FR.res {K:Fz} {β:Bt} {p:Nat→Bool} {fr:List GV} {l:List Value} (h:FR K β fr l):FR K (resβ p β) (resF p fr) l:=by
 induction h with
 | nil=>exact .nil
 | cons h t ih =>
  rw [resF]
  split
  ·rename_i hl;exact .cons (h.res hl) ih
  ·exact .cons (.any _) ih
theorem ObOk.res {K:Fz} {β:Bt} {w:World} {p:Nat→Bool} {i:Nat} {x:Ob} (h:ObOk K β w i x) (hi:p i=true) (hx:x.ok p=true):ObOk K (resβ p β) w i x:=by
 cases x with
 | gone=>simp only [ObOk] at h ⊢;rw [resβ_t hi,h]
 | box E cs =>
  obtain ⟨b,vs,h1,h2,h3,h4⟩:=h
  exact ⟨b,vs,by rw [resβ_t hi,h1],h2,⟨h3.1,fun i v g h5 h6=>(h3.2 i v g h5 h6).res (okL_mem hx (List.mem_of_getElem? h6))⟩,h4⟩
 | vec E k fz rows =>
  obtain ⟨h0,xs,h1,h2,h3,h4,h5⟩:=h
  refine ⟨h0,xs,by rw [resβ_t hi,h1],h2,⟨h3.1,fun i v g h6 h7=>(h3.2 i v g h6 h7).pc ?_⟩,h4,h5⟩
  obtain ⟨r,hr1,hr2⟩:=List.mem_flatten.1 (List.mem_of_getElem? h7)
  exact (h4 r hr1).2 g hr2
 | vech E k rows x =>
  obtain ⟨xs,h1,h2,h3,h4,h5⟩:=h
  refine ⟨xs,by rw [resβ_t hi,h1],h2,⟨h3.1,fun i v g h6 h7=>(h3.2 i v g h6 h7).pc ?_⟩,h4,h5⟩
  obtain ⟨r,hr1,hr2⟩:=List.mem_flatten.1 (List.mem_of_getElem? h7)
  exact (h4 r hr1).2 g hr2
 | lost=>exact fun b hb=>h b (by rw [resβ_t hi] at hb;exact hb)
section
variable {B:Bs} {K:Fz} {β:Bt} {Γ:List Ob} {w:World}
theorem below_t {n i:Nat} (h:i < n):below n i=true:=by simpa [below] using h
theorem below_f {n i:Nat} (h:n≤i):below n i=false:=by
 cases hb:below n i with
 | false=>rfl
 | true=>simp [below] at hb;omega
theorem Inv.cut {n:Nat} (h:Inv B K β Γ w) (hm:B.m≤n) (hl:oLt n (Γ.take n)=true):Inv B K (resβ (below n) β) (Γ.take n) w:=by
 have hblk:∀ i b,(resβ (below n) β i).blk=some b→(β i).blk=some b:=fun i b hi=>by
  simp only [resβ] at hi
  split at hi
  ·exact hi
  ·cases hi
 refine ⟨h.ext,h.kle,fun i=>?_,h.loc,h.fz,fun i x hi=>?_,fun i hi=>?_,fun i j b hi hj=>h.dis i j b (hblk i b hi) (hblk j b hj),fun i b hi=>h.own i b (hblk i b hi),h.kn,h.tab.step (S:=none') (Ext.refl w) (fun _ h=>h.elim) (KLe.refl K) (fun i b2 h2=>.inl ⟨i,hblk i b2 h2⟩)⟩
 ·by_cases hin:i < n
  ·rw [resβ_t (below_t hin)];exact h.ble i
  ·rw [h.loc i (by omega)];trivial
 ·have hlt:=oOk_mem hl (List.mem_of_getElem? hi)
  rw [List.getElem?_take] at hi
  split at hi
  ·rename_i hin;exact (h.ob i x hi).res (below_t hin) hlt
  ·cases hi
 ·by_cases hin:i < n
  ·rw [resβ_t (below_t hin)];exact h.out i (by simp at hi;omega)
  ·exact resβ_f (below_f (by omega))
theorem other_f {i:Nat}:other i i=false:=by simp [other]
theorem other_t {i j:Nat} (h:j≠i):other i j=true:=by
 cases hb:Nat.beq j i with
 | false=>simp [other,hb]
 | true=>exact absurd (Nat.eq_of_beq_eq_true hb) h
theorem Inv.freeze {i:Nat} {E:TypeId} {cs:List GV} (h:Inv B K β Γ w) (hi:Γ[i]?=some (.box E cs)) (hp:∀ g∈cs,g.pc=true) (hno:oOk (other i) (Γ.set i .gone)=true) (hm:B.m≤i) :
  ∃ K',KLe K K'∧(∀ b,β i=.fix b→∀ (j:Nat) g,cs[j]?=some g→K' b j=some g)∧Inv B K' (resβ (other i) β) (Γ.set i .gone) w:=by
 obtain ⟨b,vs,h1,h2,h3,h4⟩:=h.ob i _ hi
 have hbk:(β i).blk=some b:=by rw [h1];rfl
 have hle:KLe K (addK K b cs):=fun b' o g hg=>by
  by_cases hb:b'=b
  ·subst hb;rw [h4] at hg;cases hg
  ·simp [addK,hb,hg]
 have hblk:∀ j b',(resβ (other i) β j).blk=some b'→j≠i∧(β j).blk=some b':=fun j b' hj=>by
  by_cases hji:j=i
  ·subst hji;rw [resβ_f other_f] at hj;cases hj
  ·rw [resβ_t (other_t hji)] at hj;exact ⟨hji,hj⟩
 refine ⟨addK K b cs,hle,fun b' hb' j g hg=>?_,h.ext,h.kle.trans hle,fun j=>?_,h.loc,fun b' o g hg=>?_,fun j x hj=>?_,fun j hj=>?_,fun j j' b' hj hj'=>?_,fun j b' hj=>?_,fun b' o g hg=>?_,h.tab.step (S:=none') (Ext.refl w) (fun _ h=>h.elim) hle (fun i b2 h2=>.inl ⟨i,(hblk i b2 h2).2⟩)⟩
 ·rw [h1] at hb';cases hb';exact addK_at hg
 ·by_cases hji:j=i
  ·subst hji;rw [h.loc j hm];trivial
  ·rw [resβ_t (other_t hji)];exact h.ble j
 ·by_cases hb:b'=b
  ·subst hb
   simp [addK] at hg
   obtain ⟨v,hv,hrel⟩:=h3.at hg
   have hpc:=hp g (List.mem_of_getElem? hg)
   exact ⟨hpc,v,c_of_blk h2 (by simpa using hv),(hrel.mono hle (BLe.refl β)).pc hpc⟩
  ·have hg':K b' o=some g:=by simpa [addK,hb] using hg
   obtain ⟨h5,v,h6,h7⟩:=h.fz b' o g hg'
   exact ⟨h5,v,h6,h7.mono hle (BLe.refl _)⟩
 ·have hok:=oOk_mem hno (List.mem_of_getElem? hj)
  rw [List.getElem?_set] at hj
  split at hj
  ·rename_i hij
   split at hj
   ·cases hj;subst hij;exact resβ_f other_f
   ·cases hj
  ·rename_i hij
   refine ObOk.res ?_ (other_t (fun he=>hij he.symm)) hok
   refine (h.ob j x hj).ext (Ext.refl w) (fun _ _ h=>h) hle (BLe.refl β) rfl (fun b' o hb' hk=>?_) (S:=none')
   have:b'≠b:=fun he=>by subst he;exact hij (h.dis i j _ hbk hb')
   simp [addK,this,hk]
 ·have:i < Γ.length:=(List.getElem?_eq_some_iff.1 hi).1
  have hj':Γ.length≤j:=by simpa using hj
  rw [resβ_t (other_t (by omega))];exact h.out j hj'
 ·exact h.dis j j' b' (hblk j b' hj).2 (hblk j' b' hj').2
 ·exact h.own j b' (hblk j b' hj).2
 ·by_cases hb:b'=b
  ·subst hb;exact .inr (h.own i _ hbk)
  ·exact h.kn b' o g (by simpa [addK,hb] using hg)
end
abbrev GPost:=Exit→List GV→List Ob→Prop
def gl (B:Bs) (Q:GPost):Post:=fun e l w=>∃ K β fr Γ,Inv B K β Γ w∧FR K β fr l∧Q e fr Γ
def GW (P:Program) (m:Nat) (c:Code) (Q:GPost) (fr:List GV) (Γ:List Ob):Prop :=
 ∀ B K β w l,B.m=m→Inv B K β Γ w→FR K β fr l→W P c (gl B Q) l w
def GL (P:Program) (m:Nat) (ops:Array Oper) (Q:GPost) (rest:List Oper) (fr:List GV) (Γ:List Ob):Prop :=
 ∀ B K β w l,B.m=m→Inv B K β Γ w→FR K β fr l→WL P ops (gl B Q) rest l w
def gthn (next:List GV→List Ob→Prop) (Q:GPost):GPost
 | .normal,fr,Γ=>next fr Γ
 | e,fr,Γ=>Q e fr Γ
def ginb (id:Nat) (Q:GPost):GPost
 | .exit id',fr,Γ=>if id'=id then Q .normal fr Γ else Q (.exit id') fr Γ
 | e,fr,Γ=>Q e fr Γ
def Wk (m:Nat) (fr:List GV) (Γ:List Ob) (fr':List GV) (Γ':List Ob):Prop :=
 ∀ B K β w l,B.m=m→Inv B K β Γ w→FR K β fr l→∃ K' β',Inv B K' β' Γ' w∧FR K' β' fr' l
section
variable {P:Program} {m:Nat} {Q:GPost} {fr:List GV} {Γ:List Ob} {ops:Array Oper} {rest:List Oper}
theorem Wk.trans {fr' fr2:List GV} {Γ' Γ2:List Ob} (h:Wk m fr Γ fr' Γ') (k:Wk m fr' Γ' fr2 Γ2):Wk m fr Γ fr2 Γ2:=fun B K β w l hm hI hF=>by
 obtain ⟨K',β',hI',hF'⟩:=h B K β w l hm hI hF
 exact k B K' β' w l hm hI' hF'
theorem GW.wk {c:Code} {fr':List GV} {Γ':List Ob} (h:Wk m fr Γ fr' Γ') (k:GW P m c Q fr' Γ'):GW P m c Q fr Γ:=fun B K β w l hm hI hF=>by
 obtain ⟨K',β',hI',hF'⟩:=h B K β w l hm hI hF
 exact k B K' β' w l hm hI' hF'
theorem GL.wk {fr':List GV} {Γ':List Ob} (h:Wk m fr Γ fr' Γ') (k:GL P m ops Q rest fr' Γ'):GL P m ops Q rest fr Γ:=fun B K β w l hm hI hF=>by
 obtain ⟨K',β',hI',hF'⟩:=h B K β w l hm hI hF
 exact k B K' β' w l hm hI' hF'
theorem Wk.cut {n:Nat} (hm:m≤n) (hl:oLt n (Γ.take n)=true):Wk m fr Γ (cutF n fr) (Γ.take n):=fun B K β w l hB hI hF =>
 ⟨K,resβ (below n) β,hI.cut (by omega) hl,hF.res⟩
inductive WkF:List GV→List GV→Prop
 | nil:WkF [] []
 | any {f:GV} {fs gs:List GV} (h:WkF fs gs):WkF (f::fs) (.any::gs)
 | eq {f g:GV} {fs gs:List GV} (he:f=g) (h:WkF fs gs):WkF (f::fs) (g::gs)
theorem FR.weak {K:Fz} {β:Bt} {l:List Value} {fr fr':List GV} (h:WkF fr fr') (k:FR K β fr l):FR K β fr' l:=by
 induction h generalizing l with
 | nil=>exact k
 | any h ih=>cases k with | cons k1 k2=>exact .cons (.any _) (ih k2)
 | eq he h ih=>subst he;cases k with | cons k1 k2=>exact .cons k1 (ih k2)
theorem Wk.frm {fr':List GV} (h:WkF fr fr'):Wk m fr Γ fr' Γ:=fun B K β w l _ hI hF=>⟨K,β,hI,hF.weak h⟩
theorem GW.seq {x y:Code} (h:GW P m x (gthn (GW P m y Q) Q) fr Γ):GW P m (.seq x y) Q fr Γ:=fun B K β w l hm hI hF=>by
 refine W.seq (W.mono (h B K β w l hm hI hF) ?_)
 rintro e l w ⟨K,β,fr,Γ,hI,hF,hq⟩
 cases e with
 | normal=>exact hq B K β w l hm hI hF
 | _=>exact ⟨K,β,fr,Γ,hI,hF,hq⟩
theorem GW.skip (h:Q .normal fr Γ):GW P m .skip Q fr Γ:=fun B K β w l hm hI hF=>W.skip ⟨K,β,fr,Γ,hI,hF,h⟩
theorem GW.exit {n:Nat} (h:Q (.exit n) fr Γ):GW P m (.exit n) Q fr Γ:=fun B K β w l hm hI hF=>W.exit ⟨K,β,fr,Γ,hI,hF,h⟩
theorem GW.ret (h:Q .ret fr Γ):GW P m .ret Q fr Γ:=fun B K β w l hm hI hF=>W.ret ⟨K,β,fr,Γ,hI,hF,h⟩
theorem GW.block {id:Nat} {c:Code} (h:GW P m c (ginb id Q) fr Γ):GW P m (.block id c) Q fr Γ:=fun B K β w l hm hI hF=>by
 refine W.block (W.mono (h B K β w l hm hI hF) ?_)
 rintro e l w ⟨K,β,fr,Γ,hI,hF,hq⟩
 cases e with
 | exit id' =>
  simp only [ginb] at hq
  simp only [inb]
  split <;> rename_i hh
  ·rw [if_pos hh] at hq;exact ⟨K,β,fr,Γ,hI,hF,hq⟩
  ·rw [if_neg hh] at hq;exact ⟨K,β,fr,Γ,hI,hF,hq⟩
 | _=>exact ⟨K,β,fr,Γ,hI,hF,hq⟩
theorem Rel.v_inv {K:Fz} {β:Bt} {x a:Value} (h:Rel K β x (.v a)):x=a:=by cases h;rfl
theorem FR.evv {K:Fz} {β:Bt} {l:List Value} {x:Operand} {a:Value} (h:FR K β fr l) (hx:gev fr x=.v a):Xw.ev l x=a:=Rel.v_inv (by rw [←hx];exact h.ev x)
theorem GW.cond {c:Operand} {x y:Code} {t:Bool} (hc:gev fr c=.v (.bool t)) (ht:t=true→GW P m x Q fr Γ) (hf:t=false→GW P m y Q fr Γ):GW P m (.cond c x y) Q fr Γ:=fun B K β w l hm hI hF =>
 W.cond (hF.evv hc) (fun h=>ht h B K β w l hm hI hF) (fun h=>hf h B K β w l hm hI hF)
theorem GC1 {c:Operand} {x y:Code} {t:Bool} (hc:gev fr c=.v (.bool t)) (ht:t=true) (h:GW P m x Q fr Γ):GW P m (.cond c x y) Q fr Γ:=GW.cond hc (fun _=>h) (fun h2=>by rw [ht] at h2;cases h2)
theorem GC0 {c:Operand} {x y:Code} {t:Bool} (hc:gev fr c=.v (.bool t)) (ht:t=false) (h:GW P m y Q fr Γ):GW P m (.cond c x y) Q fr Γ:=GW.cond hc (fun h2=>by rw [ht] at h2;cases h2) (fun _=>h)
theorem GW.mono {c:Code} {Q':GPost} (h:GW P m c Q fr Γ) (hq:∀ e fr Γ,Q e fr Γ→Q' e fr Γ):GW P m c Q' fr Γ:=fun B K β w l hm hI hF =>
 W.mono (h B K β w l hm hI hF) fun e l w ⟨K,β,fr,Γ,hI,hF,q⟩=>⟨K,β,fr,Γ,hI,hF,hq _ _ _ q⟩
def GWk (m:Nat) (K:List GV→List Ob→Prop) (fr:List GV) (Γ:List Ob):Prop:=∃ fr' Γ',Wk m fr Γ fr' Γ'∧K fr' Γ'
theorem GW.loop {c:Code} {α:Type} (μ:α→Nat) (I:α→List GV→List Ob→Prop) (x:α) (h0:GWk m (I x) fr Γ)
  (round:∀ x fr Γ,I x fr Γ→GW P m c (gthn (fun fr' Γ'=>∃ y,GWk m (I y) fr' Γ'∧μ y < μ x) Q) fr Γ):GW P m (.loop c) Q fr Γ:=fun B K β w l hm hI hF=>by
 obtain ⟨fr',Γ',hw,h0⟩:=h0
 obtain ⟨K',β',hI',hF'⟩:=hw B K β w l hm hI hF
 refine W.loop μ (fun x l w=>∃ K β fr Γ,Inv B K β Γ w∧FR K β fr l∧I x fr Γ) x ⟨K',β',fr',Γ',hI',hF',h0⟩ ?_
 rintro x l w ⟨K,β,fr,Γ,hI,hF,hi⟩
 refine W.mono (round x fr Γ hi B K β w l hm hI hF) ?_
 rintro e l w ⟨K,β,fr,Γ,hI,hF,hq⟩
 cases e with
 | normal =>
  obtain ⟨y,⟨fr',Γ',hw,hy⟩,hlt⟩:=hq
  obtain ⟨K',β',hI',hF'⟩:=hw B K β w l hm hI hF
  exact ⟨y,⟨K',β',fr',Γ',hI',hF',hy⟩,hlt⟩
 | _=>exact ⟨K,β,fr,Γ,hI,hF,hq⟩
theorem GW.region {id:Nat} {ol:List Oper} (h:GL P m ol.toArray Q ol fr Γ):GW P m (.region id ol.toArray false) Q fr Γ:=fun B K β w l hm hI hF=>W.region (h B K β w l hm hI hF)
theorem GL.nil (h:Q .normal fr Γ):GL P m ops Q [] fr Γ:=fun B K β w l hm hI hF=>WL.nil ⟨K,β,fr,Γ,hI,hF,h⟩
end
section
variable {next:List GV→List Ob→Prop} {Q:GPost} {fr:List GV} {Γ:List Ob} {id id':Nat}
theorem gthn_n (h:next fr Γ):gthn next Q .normal fr Γ:=h
theorem gthn_x (h:Q (.exit id) fr Γ):gthn next Q (.exit id) fr Γ:=h
theorem gthn_r (h:Q .ret fr Γ):gthn next Q .ret fr Γ:=h
theorem ginb_n (h:Q .normal fr Γ):ginb id Q .normal fr Γ:=h
theorem ginb_r (h:Q .ret fr Γ):ginb id Q .ret fr Γ:=h
theorem ginb_xe (h:Q .normal fr Γ):ginb id Q (.exit id) fr Γ:=by simpa [ginb] using h
end
def GC (P:Program) (f:FuncId) (gs:List GV) (Γ:List Ob) (R:GV→List Ob→Prop):Prop :=
 ∀ B K β w vs,B.m=Γ.length→Inv B K β Γ w→RelL K β vs gs→Ret P f vs w fun v w'=>∃ K' β' g Γ',Inv B K' β' Γ' w'∧Rel K' β' v g∧R g Γ'
abbrev GF (P:Program) (f:FuncId) (gs:List GV) (Γ:List Ob) (g:GV) (Γ':List Ob):Prop:=GC P f gs Γ fun x Δ=>x=g∧Δ=Γ'
def grep:Nat→List GV
 | 0=>[]
 | n+1=>.v undef::grep n
def gframe:List GV→Nat→List GV
 | [],n=>grep n
 | a::r,n=>a::gframe r (n - 1)
theorem FR.rep {K:Fz} {β:Bt} (n:Nat):FR K β (grep n) (rep n):=by
 induction n with
 | zero=>exact .nil
 | succ n ih=>exact .cons (.v _) ih
theorem FR.frame {K:Fz} {β:Bt} {vs:List Value} {gs:List GV} (h:RelL K β vs gs) (n:Nat):FR K β (gframe gs n) (frame vs n):=by
 induction gs generalizing vs n with
 | nil =>
  have:vs=[]:=List.eq_nil_of_length_eq_zero h.1
  subst this;exact FR.rep n
 | cons g gs ih =>
  cases vs with
  | nil=>have:=h.1;simp at this
  | cons v vs=>obtain ⟨h1,h2⟩:=h.uncons;exact .cons h1 (ih h2 _)
def gbp (P:Program) (fn:Func) (m:Nat) (R:GV→List Ob→Prop):GPost:=fun e fr Γ =>
 (e=.normal∨e=.ret)∧∀ B K β w l,B.m=m→Inv B K β Γ w→FR K β fr l→∃ v K' β' g Γ',(results fn l.toArray).run P w=.ok v w∧Inv B K' β' Γ' w∧Rel K' β' v g∧R g Γ'
theorem GC.enter {P:Program} {f:FuncId} {fn:Func} {c:Code} {gs:List GV} {Γ:List Ob} {R:GV→List Ob→Prop} {n:Nat} {fr:List GV}
  (hf:P.funcs[f]?=some fn) (hn:fn.ntmps=n) (hb:fn.body=some c) (hl:gframe gs n=fr) (h:GW P Γ.length c (gbp P fn Γ.length R) fr Γ):GC P f gs Γ R:=fun B K β w vs hm hI hF=>by
 subst hl
 refine Ret.enter hf hn hb rfl (W.mono (h B K β w _ hm hI (FR.frame hF n)) ?_)
 rintro e l w ⟨K,β,fr,Γ,hI,hF,he,hq⟩
 obtain ⟨v,K',β',g,Γ',h1,h2,h3,h4⟩:=hq B K β w l hm hI hF
 rcases he with rfl | rfl
 ·exact ⟨v,h1,K',β',g,Γ',h2,h3,h4⟩
 ·exact ⟨v,h1,K',β',g,Γ',h2,h3,h4⟩
section
variable {P:Program} {fn:Func} {m:Nat} {R:GV→List Ob→Prop} {fr:List GV} {Γ:List Ob} {e:Exit}
theorem gbp0 {n:Nat} (hr:fn.results=#[]) (he:e=.normal∨e=.ret) (hm:m≤n) (hl:oLt n (Γ.take n)=true) (h:R (.tup []) (Γ.take n)):gbp P fn m R e fr Γ :=
 ⟨he,fun B K β w l hB hI hF=>⟨.tuple #[],K,resβ (below n) β,.tup [],Γ.take n,by rw [results_none hr],hI.cut (by omega) hl,.tup [] [] rfl (fun i v g h=>by simp at h),h⟩⟩
theorem gbp1 {n:Nat} {t:Tmp} {g:GV} (hr:fn.results=#[.tmp t]) (he:e=.normal∨e=.ret) (hg:gnth fr t=g) (hm:m≤n) (hl:oLt n (Γ.take n)=true) (hgl:g.lt n=true) (h:R g (Γ.take n)):gbp P fn m R e fr Γ :=
 ⟨he,fun B K β w l hB hI hF=>⟨nth l t,K,resβ (below n) β,g,Γ.take n,by rw [results_tmp hr,nth_eq],hI.cut (by omega) hl,by rw [←hg] at hgl ⊢;exact (hF.nth t).res hgl,h⟩⟩
theorem gbp2 {n:Nat} {t u:Tmp} {g g':GV} (hr:fn.results=#[.tmp t,.tmp u]) (he:e=.normal∨e=.ret) (hg:gnth fr t=g) (hg':gnth fr u=g') (hm:m≤n) (hl:oLt n (Γ.take n)=true) (hgl:(GV.tup [g,g']).lt n=true) (h:R (.tup [g,g']) (Γ.take n)):gbp P fn m R e fr Γ :=
 ⟨he,fun B K β w l hB hI hF=>⟨.tuple #[nth l t,nth l u],K,resβ (below n) β,.tup [g,g'],Γ.take n,by rw [results_tmp2 hr,nth_eq,nth_eq],hI.cut (by omega) hl,by
  refine Rel.res ?_ hgl
  subst hg hg'
  have hc:RelL K β [nth l t,nth l u] [gnth fr t,gnth fr u]:=.cons (hF.nth t) (.cons (hF.nth u) .nil)
  exact .tup [nth l t,nth l u] _ hc.1 hc.2,h⟩⟩
theorem gbp3 {n:Nat} {t u s:Tmp} {g g' g2:GV} (hr:fn.results=#[.tmp t,.tmp u,.tmp s]) (he:e=.normal∨e=.ret) (hg:gnth fr t=g) (hg':gnth fr u=g') (hg2:gnth fr s=g2) (hm:m≤n) (hl:oLt n (Γ.take n)=true) (hgl:(GV.tup [g,g',g2]).lt n=true)
  (h:R (.tup [g,g',g2]) (Γ.take n)):gbp P fn m R e fr Γ :=
 ⟨he,fun B K β w l hB hI hF=>⟨.tuple #[nth l t,nth l u,nth l s],K,resβ (below n) β,.tup [g,g',g2],Γ.take n,by
   rw [←nth_eq l t,←nth_eq l u,←nth_eq l s];simp [results,hr],hI.cut (by omega) hl,by
  refine Rel.res ?_ hgl
  subst hg hg' hg2
  have hc:RelL K β [nth l t,nth l u,nth l s] [gnth fr t,gnth fr u,gnth fr s]:=.cons (hF.nth t) (.cons (hF.nth u) (.cons (hF.nth s) .nil))
  exact .tup [nth l t,nth l u,nth l s] _ hc.1 hc.2,h⟩⟩
theorem gbpC {n:Nat} {t:Tmp} {T:TypeId} {k:Nat} [hT:Ty P T true k] {i:Nat} {E:TypeId} {cs:List GV} (hr:fn.results=#[.cell t T]) (he:e=.normal∨e=.ret) (hg:gnth fr t=.loc i 0) (hΓ:Γ[i]?=some (.box E cs)) (hk:cs.length=k)
  (hm:m≤n) (hl:oLt n (Γ.take n)=true) (hgl:(GV.agg cs).lt n=true) (h:R (.agg cs) (Γ.take n)):gbp P fn m R e fr Γ :=
 ⟨he,fun B K β w l hB hI hF=>by
  obtain ⟨b,vs,h1,h2,h3,h4⟩:=hI.ob i _ hΓ
  have hp:nth l t=.pointer (some ⟨b,0,none⟩):=by
   have:=hF.nth t
   rw [hg] at this
   generalize nth l t=v at this
   cases this with
   | loc _ _ b' hb'=>rw [h1] at hb';cases hb';rfl
  have hp':l.toArray.getD t undef=.pointer (some ⟨b,0,none⟩):=by rw [nth_eq,hp]
  have hld:=run_loadVarN (P:=P) (w:=w) (t:=T) (b:=b) (o:=0) (vs:=vs) (k:=k) (by rw [h3.1,hk]) (fun j v hj=>by
   rw [Nat.zero_add,cell_of_row w b j _ E (0,0) h2];simpa using hj)
  have hp'':l[t]?.getD undef=.pointer (some ⟨b,0,none⟩):=by simpa using hp'
  exact ⟨.agg vs.toArray,K,resβ (below n) β,.agg cs,Γ.take n,by simp [results,hr,hp'',asAddr,hld],hI.cut (by omega) hl,Rel.res (.agg vs cs h3.1 h3.2) hgl,h⟩⟩
end
end Go.Xg
namespace Go.Xg
open Go.RowKit Go.Xw
def YG (P:Program) (op:Op) (fr:List GV) (Γ:List Ob) (g:GV):Prop :=
 ∀ B K β w l,Inv B K β Γ w→FR K β fr l→∃ v,Runs P l w op v∧Rel K β v g
section
variable {P:Program} {m:Nat} {Q:GPost} {fr:List GV} {Γ:List Ob} {ops:Array Oper} {rest:List Oper} {d:Option Tmp} {op:Op} {ty:TypeId} {pos:String} {af:Array Edge}
theorem GL.q {g:GV} (hy:YG P op fr Γ g) (h:GL P m ops Q rest (gput fr d g) Γ):GL P m ops Q (⟨d,op,ty,pos,af,none⟩::rest) fr Γ:=fun B K β w l hm hI hF=>by
 obtain ⟨v,hr,hv⟩:=hy B K β w l hI hF
 exact WL.v hr (h B K β w _ hm hI (hF.put d hv))
theorem GNM {fr':List GV} {Γ':List Ob} (h1:fr=fr') (h2:Γ=Γ') (h:GL P m ops Q rest fr' Γ'):GL P m ops Q rest fr Γ:=by subst h1;subst h2;exact h
theorem GN {fr':List GV} (h1:fr=fr') (h:GL P m ops Q rest fr' Γ):GL P m ops Q rest fr Γ:=by subst h1;exact h
theorem YG.v1 {x:Operand} {a v:Value} (hx:gev fr x=.v a) (h:∀ l w,ev l x=a→Runs P l w op v):YG P op fr Γ (.v v):=fun B K β w l hI hF=>⟨v,h l w (hF.evv hx),.v v⟩
theorem YG.v2 {x y:Operand} {a b v:Value} (hx:gev fr x=.v a) (hy:gev fr y=.v b) (h:∀ l w,ev l x=a→ev l y=b→Runs P l w op v):YG P op fr Γ (.v v):=fun B K β w l hI hF=>⟨v,h l w (hF.evv hx) (hF.evv hy),.v v⟩
theorem YG.mv {x:Operand}:YG P (.move x) fr Γ (gev fr x):=fun B K β w l hI hF=>⟨_,R.mv,hF.ev x⟩
theorem YG.asg {x:Operand}:YG P (.assign x) fr Γ (gev fr x):=fun B K β w l hI hF=>⟨_,R.asg,hF.ev x⟩
theorem YG.mkfn {fn:Fn} {first cap:List Operand}:YG P (.makeFunc fn first.toArray cap.toArray) fr Γ (.fn fn (first.map (gev fr)) (cap.map (gev fr))):=fun B K β w l hI hF =>
 ⟨_,R.mkfn,by
  have h1:=hF.args first
  have h2:=hF.args cap
  simpa using Rel.fn fn _ _ _ _ h1.1 h2.1 h1.2 h2.2⟩
def gval:GV→Value
 | .v x=>x
 | _=>.nilFunc
def go2 (ρ:Operand→Value) (op:Op):Option Value :=
 match op with
 | .binOp _ _ _ _ _=>go ρ op
 | .unOp _ _ _=>go ρ op
 | _=>none
theorem gval_or {K:Fz} {β:Bt} {x:Value} {g:GV} (h:Rel K β x g):gval g=x∨gval g=.nilFunc:=by
 cases h <;> first | exact .inl rfl | exact .inr rfl
theorem YG.go {v:Value} (h:go2 (fun x=>gval (gev fr x)) op=some v):YG P op fr Γ (.v v):=fun B K β w l hI hF=>by
 refine ⟨v,go_runs ?_,.v v⟩
 have key:∀ x,gval (gev fr x)=ev l x∨gval (gev fr x)=.nilFunc:=fun x=>gval_or (hF.ev x)
 unfold go2 at h
 split at h
 ·rename_i o t x y t'
  simp only [Xw.go] at h ⊢
  rcases key x with hx | hx <;> rcases key y with hy | hy <;> rw [hx,hy] at h
  ·exact h
  ·cases hv:ev l x <;> rw [hv] at h <;> cases h
  ·cases h
  ·cases h
 ·rename_i o t x
  simp only [Xw.go,goOne] at h ⊢
  rcases key x with hx | hx <;> rw [hx] at h
  ·exact h
  ·cases o <;> simp only at h <;> cases h
 ·cases h
theorem YG.pkT {c a b:Operand} {t:Bool} (hc:gev fr c=.v (.bool t)) (ht:t=true):YG P (.pick c a b) fr Γ (gev fr a):=fun B K β w l hI hF=>⟨_,R.pkT (hF.evv hc) ht,hF.ev a⟩
theorem YG.pkF {c a b:Operand} {t:Bool} (hc:gev fr c=.v (.bool t)) (ht:t=false):YG P (.pick c a b) fr Γ (gev fr b):=fun B K β w l hI hF=>⟨_,R.pkF (hF.evv hc) ht,hF.ev b⟩
theorem YG.nilL {x:Operand} {i o:Nat} (hx:gev fr x=.loc i o):YG P (.nilCheck x) fr Γ (.loc i o):=fun B K β w l hI hF=>by
 have h:=hF.ev x;rw [hx] at h
 generalize hv:ev l x=v at h
 cases h with | loc _ _ b hb=>exact ⟨_,R.nilck hv,.loc i o b hb⟩
theorem YG.nilB {x:Operand} {cs:List GV} {o:Nat} (hx:gev fr x=.box cs o):YG P (.nilCheck x) fr Γ (.box cs o):=fun B K β w l hI hF=>by
 have h:=hF.ev x;rw [hx] at h
 generalize hv:ev l x=v at h
 cases h with | box b o' _ _ hb=>exact ⟨_,R.nilck hv,.box b o' o cs hb⟩
theorem YG.lenS {x:Operand} {t:TypeId} [hT:StrT P t] {s:Str} (hx:gev fr x=.v (sv s)):YG P (.call ⟨.builtin .len,#[x],#[t]⟩) fr Γ (.v (ii s.length)):=YG.v1 hx fun l w h=>R.lenS h
theorem YG.lenSl {x:Operand} {t e:TypeId} {k:Nat} [hT:SlT P t e k] {k':Nat} {rows:List (List GV)} (hx:gev fr x=.sl k' rows):YG P (.call ⟨.builtin .len,#[x],#[t]⟩) fr Γ (.v (ii rows.length)):=fun B K β w l hI hF=>by
 have h:=hF.ev x;rw [hx] at h
 generalize hv:ev l x=v at h
 cases h with
 | sl0 a c=>exact ⟨_,R.lenL hv,.v _⟩
 | sl b o c _ _ h _=>exact ⟨_,R.lenL hv,.v _⟩
theorem YG.lenV {x:Operand} {t e:TypeId} {k:Nat} [hT:SlT P t e k] {i n:Nat} (hx:gev fr x=.vec i n):YG P (.call ⟨.builtin .len,#[x],#[t]⟩) fr Γ (.v (ii n)):=fun B K β w l hI hF=>by
 have h:=hF.ev x;rw [hx] at h
 generalize hv:ev l x=v at h
 cases h with | vec _ _ a c h=>exact ⟨_,R.lenL hv,.v _⟩
theorem YG.lenN {x:Operand} {t e:TypeId} {k:Nat} [hT:SlT P t e k] {a:Option Addr} {n c:Nat} (hx:gev fr x=.v (.slice a n c)):YG P (.call ⟨.builtin .len,#[x],#[t]⟩) fr Γ (.v (ii n)):=YG.v1 hx fun l w h=>R.lenL h
theorem YG.eqS {x y:Operand} {t t':TypeId} {a b:Str} (hx:gev fr x=.v (sv a)) (hy:gev fr y=.v (sv b)):YG P (.binOp .eql t x y t') fr Γ (.v (.bool (a==b))):=YG.v2 hx hy fun l w h k=>R.eqS h k
theorem YG.neS {x y:Operand} {t t':TypeId} {a b:Str} (hx:gev fr x=.v (sv a)) (hy:gev fr y=.v (sv b)):YG P (.binOp .neq t x y t') fr Γ (.v (.bool (!(a==b)))):=YG.v2 hx hy fun l w h k=>R.neS h k
theorem YG.idxS {x y:Operand} {t:TypeId} [hT:StrT P t] {s:Str} {k:IntKind} {i:Nat} {c:UInt8} (hx:gev fr x=.v (sv s)) (hy:gev fr y=.v (.int k i)) (hc:s[i]?=some c):YG P (.index t x y) fr Γ (.v (.int .u8 c.toNat)):=YG.v2 hx hy fun l w h k=>R.idxS h k hc
theorem YG.add {x y:Operand} {t t':TypeId} {a b:Int} (hx:gev fr x=.v (ii a)) (hy:gev fr y=.v (ii b)) (hb : -9223372036854775808≤a+b∧a+b≤9223372036854775807):YG P (.binOp .add t x y t') fr Γ (.v (ii (a+b))):=YG.v2 hx hy fun l w h k=>R.add h k hb.1 hb.2
theorem YG.addN {x y:Operand} {t t':TypeId} {a b:Nat} (hx:gev fr x=.v (ii a)) (hy:gev fr y=.v (ii b)) (hb:a+b≤9223372036854775807):YG P (.binOp .add t x y t') fr Γ (.v (ii ((a+b:Nat):Int))):=YG.v2 hx hy fun l w h k=>R.addN h k hb
theorem YG.add1 {x y:Operand} {t t':TypeId} {a:Nat} (hx:gev fr x=.v (ii a)) (hy:gev fr y=.v (ii 1)) (hb:a+1≤9223372036854775807):YG P (.binOp .add t x y t') fr Γ (.v (ii ((a+1:Nat):Int))):=YG.v2 hx hy fun l w h k=>R.add1 h k hb
theorem YG.sub {x y:Operand} {t t':TypeId} {a b:Int} (hx:gev fr x=.v (ii a)) (hy:gev fr y=.v (ii b)) (hb : -9223372036854775808≤a - b∧a - b≤9223372036854775807):YG P (.binOp .sub t x y t') fr Γ (.v (ii (a - b))):=YG.v2 hx hy fun l w h k=>R.sub h k hb.1 hb.2
theorem YG.mul {x y:Operand} {t t':TypeId} {a b:Int} (hx:gev fr x=.v (ii a)) (hy:gev fr y=.v (ii b)) (hb : -9223372036854775808≤a * b∧a * b≤9223372036854775807):YG P (.binOp .mul t x y t') fr Γ (.v (ii (a * b))):=YG.v2 hx hy fun l w h k=>R.mul h k hb.1 hb.2
theorem YG.cat {x y:Operand} {t t':TypeId} {a b:Str} (hx:gev fr x=.v (sv a)) (hy:gev fr y=.v (sv b)) (hb:a.length+b.length≤9223372036854775807):YG P (.binOp .add t x y t') fr Γ (.v (sv (a++b))):=YG.v2 hx hy fun l w h k=>R.cat h k hb
theorem YG.sub2 {x:Operand} {t:TypeId} [hT:StrT P t] {s:Str} {lo hi:Operand} {k k':IntKind} {i j:Nat} (hx:gev fr x=.v (sv s)) (hlo:gev fr lo=.v (.int k i)) (hhi:gev fr hi=.v (.int k' j)) (hb:i≤j∧j≤s.length):YG P (.slice t x (some lo) (some hi) none) fr Γ (.v (sv ((s.take j).drop i))) :=
 fun B K β w l hI hF=>⟨_,R.subS (hF.evv hx) ⟨k,hF.evv hlo⟩ ⟨k',hF.evv hhi⟩ hb.1 hb.2,.v _⟩
theorem YG.sub1 {x:Operand} {t:TypeId} [hT:StrT P t] {s:Str} {lo:Operand} {k:IntKind} {i:Nat} (hx:gev fr x=.v (sv s)) (hlo:gev fr lo=.v (.int k i)) (hb:i≤s.length):YG P (.slice t x (some lo) none none) fr Γ (.v (sv (s.drop i))) :=
 fun B K β w l hI hF=>⟨_,by
  have:=R.subS (P:=P) (w:=w) (l:=l) (t:=t) (lo:=some lo) (hi:=none) (i:=i) (j:=s.length) (hF.evv hx) ⟨k,hF.evv hlo⟩ rfl hb (Nat.le_refl _)
  rw [List.take_length] at this
  exact this,.v _⟩
theorem YG.sub0 {x:Operand} {t:TypeId} [hT:StrT P t] {s:Str} {hi:Operand} {k:IntKind} {j:Nat} (hx:gev fr x=.v (sv s)) (hhi:gev fr hi=.v (.int k j)) (hb:j≤s.length):YG P (.slice t x none (some hi) none) fr Γ (.v (sv (s.take j))) :=
 fun B K β w l hI hF=>⟨_,R.subS (P:=P) (w:=w) (l:=l) (t:=t) (lo:=none) (hi:=some hi) (i:=0) (j:=j) (hF.evv hx) rfl ⟨k,hF.evv hhi⟩ (Nat.zero_le _) hb,.v _⟩
theorem YG.ext {x:Operand} {i:Nat} {cs:List GV} {g:GV} (hx:gev fr x=.tup cs) (hg:cs[i]?=some g):YG P (.extract x i) fr Γ g:=fun B K β w l hI hF=>by
 have h:=hF.ev x;rw [hx] at h
 generalize hv:ev l x=v at h
 cases h with
 | tup vs _ hl h =>
  have hi:i < vs.length:=by rw [hl];exact (List.getElem?_eq_some_iff.1 hg).1
  exact ⟨vs[i],R.extract hv (by simp [hi]),h i _ g (by simp [hi]) hg⟩
theorem YG.idxSl {x y:Operand} {t e:TypeId} {k:Nat} [hT:SlT P t e k] {rows:List (List GV)} {kk:IntKind} {i:Nat} {r:List GV} (hx:gev fr x=.sl k rows) (hy:gev fr y=.v (.int kk i)) (hr:rows[i]?=some r):YG P (.indexAddr t x y) fr Γ (.box r 0):=fun B K β w l hI hF=>by
 have h:=hF.ev x;rw [hx] at h
 have hi:=(List.getElem?_eq_some_iff.1 hr).1
 generalize hv:ev l x=v at h
 cases h with
 | sl0 a c=>simp at hi
 | sl b o c _ _ h _=>exact ⟨_,R.idxA hv (hF.evv hy) hi,.box b (o+i * k) 0 r (h i r hr).2⟩
theorem YG.fldL {x:Operand} {s:TypeId} {f off k:Nat} {agg:Bool} [hT:Fld P s f off k agg] {i o:Nat} (hx:gev fr x=.loc i o):YG P (.fieldAddr s x f) fr Γ (.loc i (o+off)):=fun B K β w l hI hF=>by
 have h:=hF.ev x;rw [hx] at h
 generalize hv:ev l x=v at h
 cases h with | loc _ _ b hb=>exact ⟨_,R.fldA hv,.loc i _ b hb⟩
theorem YG.fldB {x:Operand} {s:TypeId} {f off k:Nat} {agg:Bool} [hT:Fld P s f off k agg] {cs:List GV} {o:Nat} (hx:gev fr x=.box cs o):YG P (.fieldAddr s x f) fr Γ (.box cs (o+off)):=fun B K β w l hI hF=>by
 have h:=hF.ev x;rw [hx] at h
 generalize hv:ev l x=v at h
 cases h with | box b o' _ _ hb=>exact ⟨_,R.fldA hv,by rw [Nat.add_assoc];exact .box b o' _ cs hb⟩
theorem YG.ldL {x:Operand} {t:TypeId} [hT:Ty P t false 1] {i o:Nat} {E:TypeId} {cs:List GV} {g:GV} (hx:gev fr x=.loc i o) (hΓ:Γ[i]?=some (.box E cs)) (hg:cs[o]?=some g):YG P (.load t x) fr Γ g:=fun B K β w l hI hF=>by
 have h:=hF.ev x;rw [hx] at h
 generalize hv:ev l x=v at h
 cases h with
 | loc _ _ b hb =>
  obtain ⟨b',vs,h1,h2,h3,h4⟩:=hI.ob i _ hΓ
  rw [hb] at h1;cases h1
  obtain ⟨u,hu,hr⟩:=h3.at hg
  exact ⟨u,R.ld hv (c_of_blk h2 (by simpa using hu)),hr⟩
theorem YG.ldB {x:Operand} {t:TypeId} [hT:Ty P t false 1] {cs:List GV} {o:Nat} {g:GV} (hx:gev fr x=.box cs o) (hg:cs[o]?=some g):YG P (.load t x) fr Γ g:=fun B K β w l hI hF=>by
 have h:=hF.ev x;rw [hx] at h
 generalize hv:ev l x=v at h
 cases h with
 | box b o' _ _ hb =>
  obtain ⟨hp,u,hu,hr⟩:=hI.fz _ _ _ (hb o g hg)
  exact ⟨u,R.ld hv hu,hr.pc hp⟩
theorem row_at {k:Nat} {rows:List (List GV)} (hk:rowsOk k rows) {i j:Nat} {r:List GV} {g:GV} (hr:rows[i]?=some r) (hg:r[j]?=some g):rows.flatten[i * k+j]?=some g:=by
 induction rows generalizing i with
 | nil=>simp at hr
 | cons a rows ih =>
  have ha:a.length=k:=(hk a (List.mem_cons_self)).1
  cases i with
  | zero =>
   cases hr
   have hj:=(List.getElem?_eq_some_iff.1 hg).1
   rw [Nat.zero_mul,Nat.zero_add,List.flatten_cons,List.getElem?_append_left hj];exact hg
  | succ i =>
   rw [List.flatten_cons,List.getElem?_append_right (by rw [ha,Nat.succ_mul];omega),ha]
   rw [show (i+1) * k+j - k=i * k+j by rw [Nat.succ_mul];omega]
   exact ih (fun r hr=>hk r (List.mem_cons_of_mem _ hr)) (by simpa using hr)
theorem YG.ldLN {x:Operand} {t:TypeId} {k:Nat} [hT:Ty P t true k] {i o:Nat} {E:TypeId} {cs gs:List GV} (hx:gev fr x=.loc i o) (hΓ:Γ[i]?=some (.box E cs)) (hg:(cs.drop o).take k=gs) (hk:gs.length=k):YG P (.load t x) fr Γ (.agg gs):=fun B K β w l hI hF=>by
 have h:=hF.ev x;rw [hx] at h
 generalize hv:ev l x=v at h
 cases h with
 | loc _ _ b hb =>
  obtain ⟨b',vs,h1,h2,h3,h4⟩:=hI.ob i _ hΓ
  rw [hb] at h1;cases h1
  have h5:=(h3.drop o).take k
  rw [hg] at h5
  refine ⟨.agg ((vs.drop o).take k).toArray,R.ldS hv (by rw [h5.1,hk]) (fun j v hj=>?_),.agg _ _ h5.1 h5.2⟩
  rw [List.getElem?_take] at hj
  split at hj
  ·rw [List.getElem?_drop] at hj;exact c_of_blk h2 (by simpa using hj)
  ·cases hj
theorem cells_of {K:Fz} {β:Bt} {H:Array Obj} {b:Nat}:∀ (gs:List GV) (o:Nat),(∀ (j:Nat) g,gs[j]?=some g→∃ v,cellH H b (o+j)=some v∧Rel K β v g)→∃ vs:List Value,RelL K β vs gs∧∀ (j:Nat) v,vs[j]?=some v→cellH H b (o+j)=some v
 | [],o,_=>⟨[],.nil,fun j v h=>by simp at h⟩
 | g::gs,o,h=>by
  obtain ⟨v,hv,hr⟩:=h 0 g rfl
  obtain ⟨vs,h1,h2⟩:=cells_of gs (o+1) (fun j g' hg=>by rw [show o+1+j=o+(j+1) by omega];exact h (j+1) g' hg)
  refine ⟨v::vs,.cons hr h1,fun j u hj=>?_⟩
  cases j with
  | zero=>cases hj;exact hv
  | succ j=>rw [show o+(j+1)=o+1+j by omega];exact h2 j u hj
theorem YG.ldBN {x:Operand} {t:TypeId} {k:Nat} [hT:Ty P t true k] {cs gs:List GV} {o:Nat} (hx:gev fr x=.box cs o) (hg:(cs.drop o).take k=gs) (hk:gs.length=k):YG P (.load t x) fr Γ (.agg gs):=fun B K β w l hI hF=>by
 have h:=hF.ev x;rw [hx] at h
 generalize hv:ev l x=v at h
 cases h with
 | box b o' _ _ hb =>
  obtain ⟨vs,h1,h2⟩:=cells_of (K:=K) (β:=β) (H:=w.heap) (b:=b) gs (o'+o) (fun j g hj=>by
   have hj':cs[o+j]?=some g:=by
    rw [←hg,List.getElem?_take] at hj
    split at hj
    ·rw [List.getElem?_drop] at hj;exact hj
    ·cases hj
   obtain ⟨hp,u,hu,hr⟩:=hI.fz _ _ _ (hb (o+j) g hj')
   exact ⟨u,by rw [Nat.add_assoc];exact hu,hr.pc hp⟩)
  exact ⟨.agg vs.toArray,R.ldS hv (by rw [h1.1,hk]) h2,.agg _ _ h1.1 h1.2⟩
def gcells:GV→Option (List GV)
 | .v x=>match oneV x with
  | true=>some [.v x]
  | false=>none
 | .agg cs=>some cs
 | .any=>none
 | .tup _=>none
 | .vp _ _ _ _ _=>none
 | .sl k rows=>some [.sl k rows]
 | .box cs o=>some [.box cs o]
 | .loc i o=>some [.loc i o]
 | .vec i n=>some [.vec i n]
 | .arr i o n=>some [.arr i o n]
 | .fn f a c=>some [.fn f a c]
def gsetR:List GV→Nat→List GV→List GV
 | cs,_,[]=>cs
 | cs,o,v::r=>gsetR (gupd cs o v) (o+1) r
def gfill (pl:Nat→Option (Nat × Nat)):List GV→List (Nat × GV)→Option (List GV)
 | cs,[]=>some cs
 | cs,(i,g)::r=>match pl i with
  | none=>none
  | some (o,k)=>match gcells g with
   | none=>none
   | some gs=>if gs.length≠k || decide (o+gs.length > cs.length) then none else gfill pl (gsetR cs o gs) r
theorem Rel.cells {K:Fz} {β:Bt} {x:Value} {g:GV} {gs:List GV} (h:Rel K β x g) (hg:gcells g=some gs):∃ vs:List Value,x.cells=vs.toArray∧RelL K β vs gs:=by
 have one:∀ {x:Value} {g:GV},Rel K β x g→x.cells=#[x]→∃ vs:List Value,x.cells=vs.toArray∧RelL K β vs [g]:=fun hr hc=>⟨[_],hc,.cons hr .nil⟩
 cases h with
 | v x =>
  simp only [gcells] at hg
  split at hg
  ·rename_i ho;cases hg;exact one (.v _) (oneV_cells ho).1
  ·cases hg
 | any x=>cases hg
 | agg vs cs hl h=>cases hg;exact ⟨vs,rfl,hl,h⟩
 | tup vs cs hl h=>cases hg
 | sl0 a c k=>cases hg;exact one (.sl0 a c k) rfl
 | sl b o c k rows h hc=>cases hg;exact one (.sl b o c k rows h hc) rfl
 | box b o' o cs h=>cases hg;exact one (.box b o' o cs h) rfl
 | loc i o b h=>cases hg;exact one (.loc i o b h) rfl
 | vec i n a c h=>cases hg;exact one (.vec i n a c h) rfl
 | vp i n k idx off x h=>cases hg
 | arr i o n b c h=>cases hg;exact one (.arr i o n b c h) rfl
 | fn f xs ys first cap hl hl' h h'=>cases hg;exact one (.fn f xs ys first cap hl hl' h h') rfl
def ones1:List GV→Bool
 | []=>true
 | g::gs=>g.one&&ones1 gs
def pcs:List GV→Bool
 | []=>true
 | g::gs=>g.pc&&pcs gs
theorem pcs_mem {gs:List GV} (h:pcs gs=true):∀ g∈gs,g.pc=true:=by
 induction gs with
 | nil=>intro g hg;cases hg
 | cons x gs ih =>
  simp only [pcs,Bool.and_eq_true] at h
  intro g hg
  rcases List.mem_cons.1 hg with rfl | hg
  ·exact h.1
  ·exact ih h.2 g hg
theorem RelL.ones {K:Fz} {β:Bt} {vs:List Value} {gs:List GV} (h:RelL K β vs gs) (ho:ones1 gs=true):ones vs=true:=by
 induction gs generalizing vs with
 | nil=>have:vs=[]:=List.eq_nil_of_length_eq_zero h.1;subst this;rfl
 | cons g gs ih =>
  cases vs with
  | nil=>have:=h.1;simp at this
  | cons v vs =>
   simp only [ones1,Bool.and_eq_true] at ho
   obtain ⟨h1,h2⟩:=h.uncons
   have h3:=(oneV_cells (h1.one ho.1)).2
   have h4:=ih h2 ho.2
   simp only [Xw.ones,List.all_cons,Bool.and_eq_true] at h4 ⊢
   exact ⟨h3,h4⟩
end
end Go.Xg
namespace Go.Xg
open Go.RowKit Go.Xw
theorem RelL.setR {K:Fz} {β:Bt} {us:List Value} {hs:List GV} (k:RelL K β us hs):∀ {vs:List Value} {gs:List GV} (o:Nat),RelL K β vs gs→RelL K β (setR vs o us) (gsetR gs o hs):=by
 have hu:∀ {vs:List Value} {gs:List GV} (o:Nat) {v:Value} {g:GV},Rel K β v g→RelL K β vs gs→RelL K β (upd vs o v) (gupd gs o g):=by
  intro vs
  induction vs with
  | nil =>
   intro gs o v g hv h
   have:gs=[]:=List.eq_nil_of_length_eq_zero h.1.symm
   subst this;exact .nil
  | cons x vs ih =>
   intro gs o v g hv h
   cases gs with
   | nil=>have:=h.1;simp at this
   | cons y gs =>
    obtain ⟨h1,h2⟩:=h.uncons
    cases o with
    | zero=>exact .cons hv h2
    | succ o=>exact .cons h1 (ih o hv h2)
 induction us generalizing hs with
 | nil =>
  intro vs gs o h
  have:hs=[]:=List.eq_nil_of_length_eq_zero k.1.symm
  subst this;exact h
 | cons u us ih =>
  intro vs gs o h
  cases hs with
  | nil=>have:=k.1;simp at this
  | cons g hs =>
   obtain ⟨h1,h2⟩:=k.uncons
   exact ih h2 (o+1) (hu o h1 h)
theorem fill_rel {K:Fz} {β:Bt} {pl:Nat→Option (Nat × Nat)} {l:List Value} {fr:List GV} (hF:FR K β fr l):∀ (parts:List (Nat × Operand)) (vs:List Value) (gs cs:List GV),RelL K β vs gs →
  gfill pl gs (parts.map fun x=>(x.1,gev fr x.2))=some cs→∃ us,fillL pl vs (parts.map fun x=>(x.1,ev l x.2))=some us∧RelL K β us cs
 | [],vs,gs,cs,h,hf=>by cases hf;exact ⟨vs,rfl,h⟩
 | (i,x)::r,vs,gs,cs,h,hf=>by
  simp only [List.map_cons,gfill] at hf
  simp only [List.map_cons,fillL]
  cases hp:pl i with
  | none=>rw [hp] at hf;cases hf
  | some y =>
   obtain ⟨o,k⟩:=y
   rw [hp] at hf
   simp only at hf ⊢
   cases hg:gcells (gev fr x) with
   | none=>rw [hg] at hf;cases hf
   | some hs =>
    rw [hg] at hf
    simp only at hf
    obtain ⟨us,hu1,hu2⟩:=(hF.ev x).cells hg
    have hsz:(ev l x).cells.size=hs.length:=by rw [hu1];simpa using hu2.1
    rw [hsz,h.1]
    split at hf
    ·cases hf
    ·rename_i hc
     rw [if_neg hc]
     have hl2:(ev l x).cells.toList=us:=by rw [hu1]
     rw [hl2]
     exact fill_rel hF r _ _ cs (hu2.setR o h) hf
section
variable {P:Program} {m:Nat} {Q:GPost} {fr:List GV} {Γ:List Ob} {ops:Array Oper} {rest:List Oper} {d:Option Tmp} {op:Op} {ty:TypeId} {pos:String} {af:Array Edge}
def vs1 (z:List Value):List GV:=z.map .v
theorem YG.build {t:TypeId} {pl:List (Nat × Nat)} {z:List Value} [hT:StF P t pl z] {parts:List (Nat × Operand)} {cs:List GV} (hf:gfill (fun i=>pl[i]?) (vs1 z) (parts.map fun x=>(x.1,gev fr x.2))=some cs) :
  YG P (.build t parts.toArray) fr Γ (.agg cs):=fun B K β w l hI hF=>by
 obtain ⟨us,h1,h2⟩:=fill_rel hF parts z _ cs RelL.self hf
 exact ⟨_,R.build h1,.agg us cs h2.1 h2.2⟩
theorem inL_of {K:Fz} {β:Bt} {l:List Value} {t:Nat} (h:FR K β fr l) (ht:inL fr t=true):inL l t=true:=by
 induction h generalizing t with
 | nil=>cases ht
 | cons _ _ ih=>cases t with | zero=>rfl | succ t=>exact ih ht
theorem nth_upd {l:List Value} {t:Nat} (h:inL l t=true) (u:Value):nth (upd l t u) t=u:=by
 induction l generalizing t with
 | nil=>cases h
 | cons x l ih=>cases t with | zero=>rfl | succ t=>exact ih h
theorem nth_upd_ne {l:List Value} {t t':Nat} (h:t'≠t) (u:Value):nth (upd l t u) t'=nth l t':=by
 induction l generalizing t t' with
 | nil=>rfl
 | cons x l ih=>cases t with
  | zero=>cases t' with | zero=>exact absurd rfl h | succ t'=>rfl
  | succ t=>cases t' with | zero=>rfl | succ t'=>exact ih (fun e=>h (by rw [e]))
theorem GL.alloc {t:TypeId} {z:Value} {cs:List GV} [hT:Zer P t z] (hz:vs1 z.cells.toList=cs) (h:GL P m ops Q rest (gput fr d (.loc Γ.length 0)) (Γ++[.box t cs])):GL P m ops Q (⟨d,.alloc t,ty,pos,af,none⟩::rest) fr Γ:=fun B K β w l hm hI hF=>by
 refine WL.alloc (z:=z) fun b w' hn=>?_
 have hI':=hI.add (vs:=z.cells.toList) (cs:=cs) (E:=t) (by simpa using hn) (by rw [←hz];exact RelL.self)
 exact h B K _ w' _ hm hI' ((hF.mono (KLe.refl K) (setβ_le (by rw [hI.out _ (Nat.le_refl _)];trivial))).put d (.loc _ 0 b setβ_same))
theorem GL.box {t:TypeId} {x:Operand} {cs:List GV} (hx:gcells (gev fr x)=some cs) (h:GL P m ops Q rest (gput fr d (.loc Γ.length 0)) (Γ++[.box t cs])):GL P m ops Q (⟨d,.box t x,ty,pos,af,none⟩::rest) fr Γ:=fun B K β w l hm hI hF=>by
 obtain ⟨vs,h1,h2⟩:=(hF.ev x).cells hx
 refine WL.box rfl fun b w' hn=>?_
 rw [h1] at hn
 have hI':=hI.add hn h2
 exact h B K _ w' _ hm hI' ((hF.mono (KLe.refl K) (setβ_le (by rw [hI.out _ (Nat.le_refl _)];trivial))).put d (.loc _ 0 b setβ_same))
def oset:List Ob→Nat→Ob→List Ob
 | [],_,_=>[]
 | _::l,0,x=>x::l
 | y::l,n+1,x=>y::oset l n x
theorem oset_eq (l:List Ob) (i:Nat) (x:Ob):oset l i x=l.set i x:=by
 induction l generalizing i with
 | nil=>rfl
 | cons y l ih=>cases i with | zero=>rfl | succ i=>simp [oset,ih]
theorem setL_setR:∀ (us:List Value) (vs:List Value) (o:Nat),setL vs.toArray o us=(setR vs o us).toArray
 | [],vs,o=>rfl
 | u::us,vs,o=>by rw [setL,setR,upd_eq];exact setL_setR us _ _
theorem GL.st {x y:Operand} {t:TypeId} {agg:Bool} {k:Nat} [hT:Ty P t agg k] {i o:Nat} {E:TypeId} {cs gs:List GV} (hx:gev fr x=.loc i o) (hΓ:Γ[i]?=some (.box E cs)) (hy:gcells (gev fr y)=some gs) (hk:gs.length=k) (h1:ones1 gs=true)
  (hl:Nat.ble (o+k) cs.length=true) (h:GL P m ops Q rest (gput fr d (.v undef)) (oset Γ i (.box E (gsetR cs o gs)))):GL P m ops Q (⟨d,.store t x y,ty,pos,af,none⟩::rest) fr Γ:=fun B K β w l hm hI hF=>by
 have hr:=hF.ev x;rw [hx] at hr
 generalize hv:ev l x=v at hr
 cases hr with
 | loc _ _ b hb =>
  obtain ⟨b',vs,h2,h3,h4,h5⟩:=hI.ob i _ hΓ
  rw [hb] at h2;cases h2
  obtain ⟨us,hu1,hu2⟩:=(hF.ev y).cells hy
  have hl':o+k≤cs.length:=by simpa using hl
  refine WL.st (t:=t) hv rfl h3 (by rw [hu1];simpa [hk] using hu2.1) (by rw [List.size_toArray,h4.1];exact hl') (by rw [hu1];simpa using hu2.ones h1) fun w' hs=>?_
  rw [hu1,List.toList_toArray,setL_setR] at hs
  have hI':=hI.store hΓ hb hs (hu2.setR o h4)
  rw [←oset_eq] at hI'
  exact h B K β w' _ hm hI' (hF.put d (.v _))
def chunk:Nat→Nat→List GV→List (List GV)
 | 0,_,_=>[]
 | n+1,k,gs=>gs.take k::chunk n k (gs.drop k)
theorem chunk_spec {k:Nat}:∀ (n:Nat) (gs:List GV),gs.length=n * k→(chunk n k gs).flatten=gs∧(chunk n k gs).length=n∧∀ r∈chunk n k gs,r.length=k∧∀ g∈r,g∈gs
 | 0,gs,h=>by
  have:gs=[]:=List.eq_nil_of_length_eq_zero (by simpa using h)
  subst this;exact ⟨rfl,rfl,fun r hr=>by cases hr⟩
 | n+1,gs,h=>by
  have hk:k≤gs.length:=by rw [h,Nat.succ_mul];omega
  obtain ⟨h1,h2,h3⟩:=chunk_spec (k:=k) n (gs.drop k) (by rw [List.length_drop,h,Nat.succ_mul];omega)
  refine ⟨by rw [chunk,List.flatten_cons,h1,List.take_append_drop],by rw [chunk,List.length_cons,h2],fun r hr=>?_⟩
  rw [chunk] at hr
  rcases List.mem_cons.1 hr with rfl | hr
  ·exact ⟨by simp [hk],fun g hg=>List.mem_of_mem_take hg⟩
  ·obtain ⟨h4,h5⟩:=h3 r hr;exact ⟨h4,fun g hg=>List.mem_of_mem_drop (h5 g hg)⟩
def zs:Nat→List Value→List GV
 | 0,_=>[]
 | n+1,z=>vs1 z++zs n z
theorem zs_rel {K:Fz} {β:Bt} {n k:Nat} {z:List Value} (hz:z.length=k) (hk:0 < k):RelL K β ((List.range (n * k)).map fun j=>z.getD (j % k) undef) (zs n z):=by
 induction n with
 | zero=>simpa [zs] using RelL.nil
 | succ n ih =>
  have he:(List.range ((n+1) * k)).map (fun j=>z.getD (j % k) undef)=(List.range k).map (fun j=>z.getD (j % k) undef)++(List.range (n * k)).map fun j=>z.getD (j % k) undef:=by
   rw [Nat.succ_mul,Nat.add_comm,List.range_add,List.map_append,List.map_map]
   congr 1
   apply List.map_congr_left
   intro j _
   simp
  rw [he,zs]
  refine RelL.app ?_ ih
  have:(List.range k).map (fun j=>z.getD (j % k) undef)=z:=by
   apply List.ext_getElem
   ·simp [hz]
   ·intro j h1 h2
    simp at h1
    simp [Nat.mod_eq_of_lt h1,List.getElem?_eq_getElem h2]
  rw [this];exact RelL.self
theorem GL.mkF {t e:TypeId} {k:Nat} {z:List Value} [hT:SlZ P t e k z] {n:Nat} {parts:List (Nat × Operand)} {cs:List GV} (hn:Nat.ble (n * k) 16777216=true) (hf:gfill (fun i=>some (i * k,k)) (zs n z) (parts.map fun x=>(x.1,gev fr x.2))=some cs)
  (hl:Nat.beq cs.length (n * k)=true) (hp:pcs cs=true) (h:GL P m ops Q rest (gput fr d (.sl k (chunk n k cs))) Γ):GL P m ops Q (⟨d,.buildSlice t n parts.toArray,ty,pos,af,none⟩::rest) fr Γ:=fun B K β w l hm hI hF=>by
 obtain ⟨us,h1,h2⟩:=fill_rel hF parts _ _ cs (zs_rel (n:=n) hT.zl hT.pos) hf
 have hl':cs.length=n * k:=by simpa using hl
 refine WL.mkslice (by simpa using hn) h1 fun b w' hnw=>?_
 obtain ⟨hle,hI'⟩:=hI.freezeNew hnw h2 (pcs_mem hp)
 obtain ⟨c1,c2,c3⟩:=chunk_spec n cs hl'
 refine h B _ β w' _ hm hI' ((hF.mono hle (BLe.refl β)).put d ?_)
 have hrows:rowsOk k (chunk n k cs):=fun r hr=>⟨(c3 r hr).1,fun g hg=>pcs_mem hp g ((c3 r hr).2 g hg)⟩
 have:=Rel.sl (K:=addK K b cs) (β:=β) b 0 n k (chunk n k cs) (fun i r hr=>⟨(hrows r (List.mem_of_getElem? hr)).1,fun j g hg=>by
  rw [Nat.zero_add];exact addK_at (by have:=row_at hrows hr hg;rw [c1] at this;exact this)⟩) (by rw [c2];exact Nat.le_refl _)
 rw [c2] at this;exact this
theorem GL.mkV {t e:TypeId} {k:Nat} {z:List Value} [hT:SlZ P t e k z] {n:Nat} {parts:List (Nat × Operand)} {cs:List GV} (hn:Nat.ble (n * k) 16777216=true) (hf:gfill (fun i=>some (i * k,k)) (zs n z) (parts.map fun x=>(x.1,gev fr x.2))=some cs)
  (hl:Nat.beq cs.length (n * k)=true) (hp:pcs cs=true) (h:GL P m ops Q rest (gput fr d (.vec Γ.length n)) (Γ++[.vec e k 0 (chunk n k cs)])):GL P m ops Q (⟨d,.buildSlice t n parts.toArray,ty,pos,af,none⟩::rest) fr Γ:=fun B K β w l hm hI hF=>by
 obtain ⟨us,h1,h2⟩:=fill_rel hF parts _ _ cs (zs_rel (n:=n) hT.zl hT.pos) hf
 have hl':cs.length=n * k:=by simpa using hl
 have hn':n * k≤16777216:=by simpa using hn
 have hn2:n≤16777216:=Nat.le_trans (Nat.le_mul_of_pos_right n hT.pos) hn'
 refine WL.mkslice hn' h1 fun b w' hnw=>?_
 obtain ⟨c1,c2,c3⟩:=chunk_spec n cs hl'
 have hrows:rowsOk k (chunk n k cs):=fun r hr=>⟨(c3 r hr).1,fun g hg=>pcs_mem hp g ((c3 r hr).2 g hg)⟩
 have how:=Own.of_new hnw (n:=n) (k:=k) (by rw [h2.1,hl']) (by simp only [maxLen];omega)
 have hI':=hI.addV (x:=.slice (some ⟨b,0,none⟩) n n) (xs:=us) (rows:=chunk n k cs) hnw.ext (by rw [c2];exact how.base (Nat.zero_le _)) (fun b' hb'=>by cases hb';rw [hnw.fresh];exact Nat.le_refl _) (by rw [c1];exact h2) hrows
 refine h B K _ w' _ hm hI' ((hF.mono (KLe.refl K) (setβ_le (by rw [hI.out _ (Nat.le_refl _)];trivial))).put d ?_)
 exact .vec _ n _ n ⟨_,_,setβ_same,by rw [c2];exact Nat.le_refl _,fun _=>rfl⟩
def sepT (x:Operand) (t:Tmp):Bool :=
 match x with
 | .tmp t'=>!Nat.beq t' t
 | _=>true
theorem ev_sep {l:List Value} {x:Operand} {t:Tmp} (h:sepT x t=true) (u:Value):ev (put l (some t) u) x=ev l x:=by
 cases x with
 | tmp t'=>exact nth_upd_ne (fun e=>by subst e;simp [sepT] at h) u
 | _=>rfl
theorem GL.push {x s:Operand} {t e k by':Nat} {z:List Value} [hT:ApT P t e k by'] [hZ:SlZ P t e k z] {d1:Tmp} {ty1:TypeId} {pos1:String} {af1:Array Edge} {i n fz:Nat} {rows:List (List GV)} {gs:List GV}
  (hx:gcells (gev fr x)=some gs) (hk:Nat.beq gs.length k=true) (h1:ones1 gs=true) (hp:pcs gs=true) (hs:gev fr s=.vec i n) (hsd:sepT s d1=true) (hd:inL fr d1=true) (hΓ:Γ[i]?=some (.vec e k fz rows)) (hn:rows.length=n)
  (hb:(n+1≤9223372036854775807∧(n+1) * by'≤140737488355328)∧k≤16777216)
  (h:GL P m ops Q rest (gput (gput fr (some d1) .any) d (.vec i (n+1))) (oset Γ i (.vec e k fz (rows++[gs])))) :
  GL P m ops Q (⟨some d1,.buildSlice t 1 #[(0,x)],ty1,pos1,af1,none⟩::⟨d,.call ⟨.builtin .append,#[s,.tmp d1],#[t,t]⟩,ty,pos,af,none⟩::rest) fr Γ:=fun B K β w l hm hI hF=>by
 subst hn
 obtain ⟨us,hu1,hu2⟩:=(hF.ev x).cells hx
 obtain ⟨h0,xs,o1,o2,o3,o4,o5,o6⟩:=hI.ob i _ hΓ
 have hsr:=hF.ev s;rw [hs] at hsr
 have hsv:ev l s=h0:=by
  generalize hv:ev l s=v at hsr
  cases hsr with
  | vec _ _ a c hh =>
   obtain ⟨h',m',e1,e2,e3⟩:=hh
   rw [o1] at e1;cases e1
   exact e3 rfl
 have hd':=inL_of hF hd
 have hk':gs.length=k:=by simpa using hk
 refine WL.push (base:=0) (v:=h0) (vs:=us) (val:=ev l x) (xs:=xs) (n:=rows.length) rfl (fun u=>by rw [ev_sep hsd];exact hsv) (fun u=>nth_upd hd' u) hu1 (by rw [hu2.1,hk']) (hu2.ones h1) o2 hb.1.1 hb.1.2 hb.2 (Nat.zero_le _) ?_
 intro u v' w' how hext hfr hor
 obtain ⟨K',hK,hβ,hI'⟩:=hI.grow hΓ o1 ⟨o2,o3⟩ (news:=[gs]) (ns:=us) how hext hfr (by simpa using hu2) (fun r hr=>by simp at hr;subst hr;exact ⟨hk',pcs_mem hp⟩) (by simp) (fun b hb' o v ho hv=>by
  rcases hor with h7 | h7
  ·exact h7.c hv (fun h=>h)
  ·have hlo:o < xs.length:=by rw [o2.1];exact Nat.lt_of_lt_of_le ho (Nat.mul_le_mul_right k o6)
   obtain ⟨b2,c2,he2,_,_,hc2⟩:=o2.cells.2 (by intro h0;rw [h0] at hlo;simp at hlo)
   have hb2:b2=b:=by rw [he2] at hb';cases hb';rfl
   subst hb2
   have hxo:=hc2 o xs[o] (by simp [hlo])
   rw [cell_eq,hv] at hxo;cases hxo
   obtain ⟨b3,c3,he3,_,_,hc3⟩:=how.cells.2 (by intro h0;have:xs=[]:=(List.append_eq_nil_iff.1 h0).1;rw [this] at hlo;simp at hlo)
   have hb3:b3=b2:=by rw [he3,hb'] at h7;cases h7;rfl
   subst hb3
   rw [←cell_eq];exact hc3 o _ (by rw [List.getElem?_append_left hlo];simp [hlo]))
 rw [←oset_eq] at hI'
 refine h B K' _ w' _ hm hI' (((hF.mono hK hβ).put (some d1) (.any u)).put d ?_)
 obtain ⟨a,c,rfl⟩:=how.shape
 exact .vec i _ a c ⟨_,_,setβ_same,by simp,fun _=>rfl⟩
theorem Wk.nilV {t:Nat} {a:Option Addr} {c:Nat} (E k:Nat) (ht:gnth fr t=.v (.slice none 0 0)):Wk m fr Γ (gupd fr t (.vec Γ.length 0)) (Γ++[.vec E k 0 []]):=fun B K β w l hm hI hF=>by
 have hno:β Γ.length=.no:=hI.out _ (Nat.le_refl _)
 have hI':=hI.addV (w':=w) (E:=E) (k:=k) (x:=.slice none 0 0) (xs:=[]) (rows:=[]) (Ext.refl w) (Own.nil w 0 E k) (fun b hb=>by cases hb) RelL.nil (fun r hr=>by cases hr)
 refine ⟨K,_,hI',?_⟩
 have hF':=hF.mono (KLe.refl K) (setβ_le (i:=Γ.length) (x:=.gr (.slice none 0 0) ([]:List (List GV)).length) (by rw [hno];trivial))
 have hv:nth l t=.slice none 0 0:=Rel.v_inv (by rw [←ht];exact hF.nth t)
 have hu:∀ (l:List Value) (t:Nat) (v:Value),nth l t=v→(∃ a n c,v=.slice a n c)→upd l t v=l:=by
  intro l
  induction l with
  | nil=>intro t v _ _;rfl
  | cons x l ih =>
   intro t v h1 h2
   cases t with
   | zero=>simp only [nth] at h1;subst h1;rfl
   | succ t=>simp only [nth] at h1;simp only [upd];rw [ih t v h1 h2]
 have:=hF'.upd t (v:=.slice none 0 0) (g:=.vec Γ.length 0) (.vec _ 0 none 0 ⟨_,_,setβ_same,Nat.le_refl _,fun _=>rfl⟩)
 rw [hu l t _ hv ⟨_,_,_,rfl⟩] at this
 exact this
theorem upd_self {l:List Value} {t:Nat} (h:inL l t=true):upd l t (nth l t)=l:=by
 induction l generalizing t with
 | nil=>cases h
 | cons x l ih=>cases t with | zero=>rfl | succ t=>simp only [upd,nth];rw [ih h]
theorem Wk.snap {t i n E k fz:Nat} {rows:List (List GV)} (ht:gnth fr t=.vec i n) (hin:inL fr t=true) (hΓ:Γ[i]?=some (.vec E k fz rows)) (hn:rows.length=n):Wk m fr Γ (gupd fr t (.sl k rows)) (oset Γ i (.vec E k n rows)):=fun B K β w l hm hI hF=>by
 subst hn
 obtain ⟨h0,xs,o1,o2,o3,o4,o5,o6⟩:=hI.ob i _ hΓ
 obtain ⟨K',hK,hfz,hI'⟩:=hI.snap hΓ
 rw [←oset_eq] at hI'
 refine ⟨K',β,hI',?_⟩
 have hr:=hF.nth t;rw [ht] at hr
 have hrel:Rel K' β (nth l t) (.sl k rows):=by
  generalize nth l t=v at hr
  cases hr with
  | vec _ _ a c hh =>
   obtain ⟨h',m',e1,e2,e3⟩:=hh
   rw [o1] at e1;cases e1
   have e4:=e3 rfl
   rcases o2.2 with ⟨e5,e6⟩ | ⟨g,cap,cu,e5,_,_,hnc,_⟩
   ·have:rows=[]:=List.eq_nil_of_length_eq_zero e6
    subst this
    exact .sl0 _ _ _
   ·rw [e5] at e4;cases e4
    refine .sl g 0 _ k rows (fun j r hr=>⟨(o4 r (List.mem_of_getElem? hr)).1,fun q g' hg'=>?_⟩) hnc
    rw [Nat.zero_add]
    exact hfz _ g o1 (by rw [e5];rfl) _ g' (row_at o4 hr hg')
 have:=(hF.mono hK (BLe.refl β)).upd t hrel
 rw [upd_self (inL_of hF hin)] at this
 exact this
def frzG (i:Nat) (cs:List GV):GV→GV
 | .loc j o=>match Nat.beq j i with
  | true=>.box cs o
  | false=>.loc j o
 | g=>match g.ok (other i) with
  | true=>g
  | false=>.any
theorem Rel.frz {K K':Fz} {β:Bt} {i b:Nat} {cs:List GV} {x:Value} {g:GV} (h:Rel K β x g) (hk:KLe K K') (hb:β i=.fix b) (hc:∀ (j:Nat) g,cs[j]?=some g→K' b j=some g):Rel K' (resβ (other i) β) x (frzG i cs g):=by
 have gen:∀ {g:GV},Rel K β x g→Rel K' (resβ (other i) β) x (match g.ok (other i) with | true=>g | false=>.any):=by
  intro g h
  split
  ·rename_i ho;exact (h.mono hk (BLe.refl β)).res ho
  ·exact .any _
 cases g with
 | loc j o =>
  simp only [frzG]
  split
  ·rename_i hj
   have hj:j=i:=by simpa using hj
   subst hj
   cases h with
   | loc _ _ b' hb' =>
    rw [hb] at hb';cases hb'
    have:=Rel.box (K:=K') (β:=resβ (other j) β) b 0 o cs (fun q g hg=>by rw [Nat.zero_add];exact hc q g hg)
    rw [Nat.zero_add] at this;exact this
  ·rename_i hj
   have hj:j≠i:=by intro e;subst e;simp at hj
   exact (h.mono hk (BLe.refl β)).res (other_t hj)
 | _=>exact gen h
def frzF (i:Nat) (cs:List GV):List GV→List GV
 | []=>[]
 | g::gs=>frzG i cs g::frzF i cs gs
theorem Wk.freeze {i:Nat} {E:TypeId} {cs:List GV} (hΓ:Γ[i]?=some (.box E cs)) (hp:pcs cs=true) (hno:oOk (other i) (oset Γ i .gone)=true) (hm:m≤i):Wk m fr Γ (frzF i cs fr) (oset Γ i .gone):=fun B K β w l hB hI hF=>by
 rw [oset_eq] at hno ⊢
 obtain ⟨b,vs,h1,h2,h3,h4⟩:=hI.ob i _ hΓ
 obtain ⟨K',hK,hfz,hI'⟩:=hI.freeze hΓ (pcs_mem hp) hno (by omega)
 refine ⟨K',_,hI',?_⟩
 clear hI hI' hno hΓ
 induction hF with
 | nil=>exact .nil
 | cons h t ih=>exact .cons (h.frz hK h1 (hfz b h1)) ih
end
end Go.Xg
namespace Go.Xg
open Go.RowKit Go.Xw
def selF:List Nat→Nat→Nat→Nat
 | [],n,j=>n+j
 | i::_,_,0=>i
 | _::r,n,j+1=>selF r n j
def setAll:List Ob→List Nat→List Ob→List Ob
 | Γ,[],xs=>Γ++xs
 | Γ,_::_,[]=>Γ
 | Γ,i::r,x::xs=>setAll (oset Γ i x) r xs
def okSel:List Nat→Nat→Bool
 | [],_=>true
 | i::r,n=>Nat.blt i n&&!(r.contains i)&&okSel r n
theorem selF_ge {sel:List Nat} {n j:Nat} (h:sel.length≤j):selF sel n j=n+(j - sel.length):=by
 induction sel generalizing j with
 | nil=>simp [selF]
 | cons i r ih =>
  cases j with
  | zero=>simp at h
  | succ j=>rw [selF,ih (by simpa using h)];simp
theorem selF_lt {sel:List Nat} {n j:Nat} (h:j < sel.length):∃ i∈sel,selF sel n j=i:=by
 induction sel generalizing j with
 | nil=>simp at h
 | cons i r ih =>
  cases j with
  | zero=>exact ⟨i,by simp,rfl⟩
  | succ j=>obtain ⟨x,h1,h2⟩:=ih (j:=j) (by simpa using h);exact ⟨x,by simp [h1],h2⟩
theorem okSel_lt {sel:List Nat} {n:Nat} (h:okSel sel n=true):∀ i∈sel,i < n:=by
 induction sel with
 | nil=>intro i hi;cases hi
 | cons x r ih =>
  simp only [okSel,Bool.and_eq_true] at h
  intro i hi
  rcases List.mem_cons.1 hi with rfl | hi
  ·simpa using h.1.1
  ·exact ih h.2 i hi
theorem selF_inj {sel:List Nat} {n:Nat} (h:okSel sel n=true):∀ {j j':Nat},selF sel n j=selF sel n j'→j=j':=by
 induction sel with
 | nil=>intro j j' he;simp only [selF] at he;omega
 | cons x r ih =>
  have hlt:=okSel_lt h
  simp only [okSel,Bool.and_eq_true,Bool.not_eq_true'] at h
  have hx:∀ j,selF r n j≠x:=fun j he=>by
   by_cases hj:j < r.length
   ·obtain ⟨i,hi,h2⟩:=selF_lt (n:=n) hj
    rw [he] at h2;subst h2
    have:=h.1.2
    rw [List.contains_iff_mem.2 hi] at this;cases this
   ·have:=selF_ge (n:=n) (Nat.le_of_not_lt hj)
    have:=hlt x (by simp)
    omega
  intro j j' he
  cases j with
  | zero=>cases j' with
   | zero=>rfl
   | succ j'=>exact absurd he.symm (hx j')
  | succ j=>cases j' with
   | zero=>exact absurd he (hx j)
   | succ j'=>rw [ih h.2 he]
theorem setAll_spec {sel:List Nat} {n:Nat}:∀ {Γ xs:List Ob},Γ.length=n→okSel sel n=true→sel.length≤xs.length →
  (∀ j,(setAll Γ sel xs)[selF sel n j]?=xs[j]?)∧(∀ i,(∀ j,selF sel n j≠i)→(setAll Γ sel xs)[i]?=Γ[i]?)∧(setAll Γ sel xs).length=n+(xs.length - sel.length):=by
 induction sel with
 | nil =>
  intro Γ xs hn _ _
  refine ⟨fun j=>?_,fun i hi=>?_,by simp [setAll,hn]⟩
  ·simp only [setAll,selF]
   rw [List.getElem?_append_right (by omega)];congr 1;omega
  ·simp only [setAll,selF] at hi ⊢
   by_cases hlt:i < n
   ·rw [List.getElem?_append_left (by omega)]
   ·exact absurd (by omega) (hi (i - n))
 | cons x r ih =>
  intro Γ xs hn hok hl
  have hinj:=@selF_inj (x::r) n hok
  have hlt:=okSel_lt hok x (by simp)
  cases xs with
  | nil=>simp at hl
  | cons y ys =>
   simp only [okSel,Bool.and_eq_true,Bool.not_eq_true'] at hok
   obtain ⟨h1,h2,h3⟩:=ih (Γ:=oset Γ x y) (xs:=ys) (by rw [oset_eq];simpa using hn) hok.2 (by simpa using hl)
   have hx:∀ j,selF r n j≠x:=fun j he=>by
    have:=@hinj (j+1) 0 he;omega
   refine ⟨fun j=>?_,fun i hi=>?_,by simp only [setAll,h3,List.length_cons];omega⟩
   ·cases j with
    | zero =>
     simp only [setAll,selF]
     rw [h2 x hx,oset_eq,List.getElem?_set];simp [hn,hlt]
    | succ j=>simp only [setAll,selF];exact h1 j
   ·simp only [setAll]
    rw [h2 i (fun j=>hi (j+1)),oset_eq,List.getElem?_set]
    rw [if_neg (by intro e;exact hi 0 e)]
theorem ObOk.of_ren {K:Fz} {β:Bt} {w:World} {f:Nat→Nat} {j:Nat} {x:Ob} (h:ObOk K β w (f j) (x.ren f)):ObOk K (fun j=>β (f j)) w j x:=by
 cases x with
 | gone=>exact h
 | box E cs =>
  obtain ⟨b,vs,h1,h2,h3,h4⟩:=h
  rw [renL_map] at h3
  exact ⟨b,vs,h1,h2,⟨by simpa using h3.1,fun i v g h5 h6=>(h3.2 i v (ren f g) h5 (by rw [List.getElem?_map,h6];rfl)).of_ren⟩,h4⟩
 | vec E k fz rows =>
  obtain ⟨h0,xs,h1,h2,h3,h4,h5⟩:=h
  refine ⟨h0,xs,h1,h2,⟨h3.1,fun i v g h6 h7=>(h3.2 i v g h6 h7).pc ?_⟩,h4,h5⟩
  obtain ⟨r,hr1,hr2⟩:=List.mem_flatten.1 (List.mem_of_getElem? h7)
  exact (h4 r hr1).2 g hr2
 | vech E k rows x =>
  obtain ⟨xs,h1,h2,h3,h4,h5⟩:=h
  refine ⟨xs,h1,h2,⟨h3.1,fun i v g h6 h7=>(h3.2 i v g h6 h7).pc ?_⟩,h4,h5⟩
  obtain ⟨r,hr1,hr2⟩:=List.mem_flatten.1 (List.mem_of_getElem? h7)
  exact (h4 r hr1).2 g hr2
 | lost=>exact h
theorem ObOk.to_ren {K:Fz} {β:Bt} {w:World} {f:Nat→Nat} {j:Nat} {x:Ob} (h:ObOk K (fun j=>β (f j)) w j x):ObOk K β w (f j) (x.ren f):=by
 cases x with
 | gone=>exact h
 | box E cs =>
  obtain ⟨b,vs,h1,h2,h3,h4⟩:=h
  refine ⟨b,vs,h1,h2,?_,h4⟩
  rw [renL_map]
  refine ⟨by simpa using h3.1,fun i v g h5 h6=>?_⟩
  rw [List.getElem?_map] at h6
  cases hc:cs[i]? with
  | none=>rw [hc] at h6;cases h6
  | some c=>rw [hc] at h6;cases h6;exact (h3.2 i v c h5 hc).to_ren
 | vec E k fz rows =>
  obtain ⟨h0,xs,h1,h2,h3,h4,h5⟩:=h
  refine ⟨h0,xs,h1,h2,⟨h3.1,fun i v g h6 h7=>(h3.2 i v g h6 h7).pc ?_⟩,h4,h5⟩
  obtain ⟨r,hr1,hr2⟩:=List.mem_flatten.1 (List.mem_of_getElem? h7)
  exact (h4 r hr1).2 g hr2
 | vech E k rows x =>
  obtain ⟨xs,h1,h2,h3,h4,h5⟩:=h
  refine ⟨xs,h1,h2,⟨h3.1,fun i v g h6 h7=>(h3.2 i v g h6 h7).pc ?_⟩,h4,h5⟩
  obtain ⟨r,hr1,hr2⟩:=List.mem_flatten.1 (List.mem_of_getElem? h7)
  exact (h4 r hr1).2 g hr2
 | lost=>exact h
section
variable {K:Fz} {β:Bt} {Γ:List Ob} {w:World} {B:Bs}
theorem Inv.enter {sel:List Nat} {Γc:List Ob} (h:Inv B K β Γ w) (hok:okSel sel Γ.length=true) (hl:Γc.length=sel.length) (hΓ:∀ j x,Γc[j]?=some x→Γ[selF sel Γ.length j]?=some (x.ren (selF sel Γ.length))) :
  Inv (cur K (fun j=>β (selF sel Γ.length j)) Γc w) K (fun j=>β (selF sel Γ.length j)) Γc w:=by
 have hno:∀ i,Γc.length≤i→β (selF sel Γ.length i)=.no:=fun i hi=>by
  rw [selF_ge (by omega)];exact h.out _ (by omega)
 exact ⟨Ext.refl w,KLe.refl K,BLe.refl _,hno,h.fz,fun i x hi=>(h.ob _ _ (hΓ i x hi)).of_ren,hno,fun i j b hi hj=>selF_inj hok (h.dis _ _ b hi hj),fun i b hb=>.inl ⟨i,hb⟩,fun _ _ _ h=>.inl h,h.tab.step (S:=none') (Ext.refl w) (fun _ h=>h.elim) (KLe.refl K) (fun i b2 h2=>.inl ⟨_,h2⟩)⟩
theorem Inv.leave {sel:List Nat} {Γc Γc':List Ob} {K':Fz} {βc':Bt} {w':World} (h:Inv B K β Γ w) (hok:okSel sel Γ.length=true) (hl:Γc.length=sel.length) (hl':sel.length≤Γc'.length)
  (hI:Inv (cur K (fun j=>β (selF sel Γ.length j)) Γc w) K' βc' Γc' w') :
  ∃ β',KLe K K'∧BLe β β'∧(∀ j,β' (selF sel Γ.length j)=βc' j)∧Inv B K' β' (setAll Γ sel (Γc'.map (Ob.ren (selF sel Γ.length)))) w':=by
 obtain ⟨s1,s2,s3⟩:=setAll_spec (sel:=sel) (n:=Γ.length) (Γ:=Γ) (xs:=Γc'.map (Ob.ren (selF sel Γ.length))) rfl hok (by simpa using hl')
 rw [List.length_map] at s3
 generalize hf:selF sel Γ.length=f at *
 have hinj:∀ {j j'},f j=f j'→j=j':=by subst hf;exact selF_inj hok
 have hge:∀ j,sel.length≤j→f j=Γ.length+(j - sel.length):=fun j hj=>by subst hf;exact selF_ge hj
 have hcov:∀ i,Γ.length≤i→f (sel.length+(i - Γ.length))=i:=fun i hi=>by rw [hge _ (by omega)];omega
 have ⟨β',hβ1,hβ2⟩:∃ β':Bt,(∀ j,β' (f j)=βc' j)∧∀ i,(∀ j,f j≠i)→β' i=β i:=by
  classical
  refine ⟨fun i=>if h:∃ j,f j=i then βc' (Classical.choose h) else β i,fun j=>?_,fun i hi=>?_⟩
  ·have hex:∃ j',f j'=f j:=⟨j,rfl⟩
   simp only
   rw [dif_pos hex,hinj (Classical.choose_spec hex)]
  ·simp only
   rw [dif_neg (fun ⟨j,hj⟩=>hi j hj)]
 have hBL:BLe β β':=fun i=>by
  by_cases hi:∃ j,f j=i
  ·obtain ⟨j,rfl⟩:=hi;rw [hβ1];exact hI.ble j
  ·rw [hβ2 i (fun j hj=>hi ⟨j,hj⟩)];exact BkLe.refl _
 have hfoot:∀ b,blocks (fun j=>β (f j)) b→blocks β b:=fun b ⟨j,hj⟩=>⟨f j,hj⟩
 have hown:∀ i b,(β' i).blk=some b→blocks β b∨w.heap.size≤b:=fun i b hb=>by
  by_cases hi:∃ j,f j=i
  ·obtain ⟨j,rfl⟩:=hi
   rw [hβ1] at hb
   exact (hI.own j b hb).imp (hfoot b) id
  ·rw [hβ2 i (fun j hj=>hi ⟨j,hj⟩)] at hb;exact .inl ⟨i,hb⟩
 have hnf:∀ i b,(∀ j,f j≠i)→(β i).blk=some b→¬ blocks (fun j=>β (f j)) b:=fun i b hi hb ⟨j,hj⟩=>hi j (h.dis _ _ b hj hb)
 refine ⟨β',hI.kle,hBL,hβ1,h.rebase (Γ0:=Γ) ?_⟩
 refine ⟨hI.ext.mono (fun k _ hk=>hfoot k hk),hI.kle,hBL,h.out,hI.fz,fun i x hi=>?_,fun i hi=>?_,fun i i' b hi hi'=>?_,hown,fun b o g hg=>?_,⟨hI.tab.le,hI.tab.pow,hI.tab.spc,fun i b hb=>(hown i b hb).elim (fun ⟨j,hj⟩=>h.tab.free j b hj) (fun hs=>⟨by have:=h.tab.pow.lt;have hs:w.heap.size≤b:=hs;omega,by have:=h.tab.spc.lt;have hs:w.heap.size≤b:=hs;omega⟩)⟩⟩
 ·by_cases hj:∃ j,f j=i
  ·obtain ⟨j,rfl⟩:=hj
   rw [s1 j,List.getElem?_map] at hi
   cases hc:Γc'[j]? with
   | none=>rw [hc] at hi;cases hi
   | some c =>
    rw [hc] at hi;cases hi
    refine ObOk.to_ren ?_
    have:=hI.ob j c hc
    rw [show (fun j=>β' (f j))=βc' from funext hβ1];exact this
  ·have hj':∀ j,f j≠i:=fun j h=>hj ⟨j,h⟩
   rw [s2 i hj'] at hi
   refine (h.ob i x hi).ext hI.ext (fun b hb=>hnf i b hj' hb) hI.kle hBL (hβ2 i hj') (fun b o hb hk=>?_)
   cases hk':K' b o with
   | none=>rfl
   | some g =>
    rcases hI.kn b o g hk' with h7 | h7 | h7
    ·have h7:K b o=some g:=h7
     rw [hk] at h7;cases h7
    ·exact absurd h7 (hnf i b hj' hb)
    ·have:=h.lt hb
     have h7:w.heap.size≤b:=h7
     omega
 ·rw [s3] at hi
  have h1:=hcov i (by omega)
  rw [←h1,hβ1]
  exact hI.out _ (by omega)
 ·by_cases h1:∃ j,f j=i <;> by_cases h2:∃ j,f j=i'
  ·obtain ⟨j,rfl⟩:=h1;obtain ⟨j',rfl⟩:=h2
   rw [hβ1] at hi hi'
   rw [hI.dis j j' b hi hi']
  ·obtain ⟨j,rfl⟩:=h1
   have h2':∀ j,f j≠i':=fun j h=>h2 ⟨j,h⟩
   rw [hβ1] at hi;rw [hβ2 i' h2'] at hi'
   rcases hI.own j b hi with h7 | h7
   ·exact absurd h7 (hnf i' b h2' hi')
   ·have:=h.lt hi';have h7:w.heap.size≤b:=h7;omega
  ·obtain ⟨j,rfl⟩:=h2
   have h1':∀ j,f j≠i:=fun j h=>h1 ⟨j,h⟩
   rw [hβ1] at hi';rw [hβ2 i h1'] at hi
   rcases hI.own j b hi' with h7 | h7
   ·exact absurd h7 (hnf i b h1' hi)
   ·have:=h.lt hi;have h7:w.heap.size≤b:=h7;omega
  ·rw [hβ2 i (fun j h=>h1 ⟨j,h⟩)] at hi;rw [hβ2 i' (fun j h=>h2 ⟨j,h⟩)] at hi'
   exact h.dis i i' b hi hi'
 ·rcases hI.kn b o g hg with h7 | h7 | h7
  ·exact .inl h7
  ·exact .inr (.inl (hfoot b h7))
  ·exact .inr (.inr h7)
end
section
variable {P:Program} {m:Nat} {Q:GPost} {fr:List GV} {Γ:List Ob} {ops:Array Oper} {rest:List Oper} {d:Option Tmp} {op:Op} {ty:TypeId} {pos:String} {af:Array Edge}
def seen (f:Nat→Nat) (Γ:List Ob):List Nat→List Ob→Prop
 | [],[]=>True
 | i::r,x::xs=>Γ[i]?=some (x.ren f)∧seen f Γ r xs
 | _,_=>False
theorem seen_spec {f:Nat→Nat} {Γ:List Ob} {n:Nat}:∀ {sel:List Nat} {Γc:List Ob},seen f Γ sel Γc→Γc.length=sel.length∧∀ j x,Γc[j]?=some x→Γ[selF sel n j]?=some (x.ren f)
 | [],[],_=>⟨rfl,fun j x h=>by simp at h⟩
 | i::r,y::ys,h=>by
  obtain ⟨h1,h2⟩:=h
  obtain ⟨h3,h4⟩:=seen_spec (n:=n) h2
  refine ⟨by simp [h3],fun j x hx=>?_⟩
  cases j with
  | zero=>cases hx;exact h1
  | succ j=>exact h4 j x hx
 | [],_::_,h=>h.elim
 | _::_,[],h=>h.elim
theorem GL.calls {f:FuncId} {sel:List Nat} {gs:List GV} {Γc:List Ob} {R:GV→List Ob→Prop} {vs:List Value→List Value} (hr:∀ K β w l,FR K β fr l→RelL K β (vs l) (renL (selF sel Γ.length) gs)∧(execOp (ev l) ⟨d,op,ty,pos,af,none⟩).run P w=.ok (.enter f (vs l).toArray) w)
  (hok:okSel sel Γ.length=true) (hΓ:seen (selF sel Γ.length) Γ sel Γc) (hc:GC P f gs Γc R)
  (h:∀ g Γ',R g Γ'→sel.length≤Γ'.length∧GL P m ops Q rest (gput fr d (ren (selF sel Γ.length) g)) (setAll Γ sel (Γ'.map (Ob.ren (selF sel Γ.length))))) :
  GL P m ops Q (⟨d,op,ty,pos,af,none⟩::rest) fr Γ:=fun B K β w l hm hI hF=>by
 obtain ⟨hl,hs⟩:=seen_spec (n:=Γ.length) hΓ
 obtain ⟨ha,hr⟩:=hr K β w l hF
 have hIc:=hI.enter hok hl hs
 have hargs:RelL K (fun j=>β (selF sel Γ.length j)) (vs l) gs:=by
  rw [renL_map] at ha
  exact ⟨by simpa using ha.1,fun i v g h5 h6=>(ha.2 i v (ren _ g) h5 (by rw [List.getElem?_map,h6];rfl)).of_ren⟩
 refine WL.calls hr (hc _ K _ w _ rfl hIc hargs) ?_
 rintro v w' ⟨K',βc',g,Γ',hI',hrel,hR⟩
 obtain ⟨hl',h⟩:=h g Γ' hR
 obtain ⟨β',hK,hB,hβ,hI2⟩:=hI.leave hok hl hl' hI'
 refine h B K' β' w' _ hm hI2 ((hF.mono hK hB).put d (Rel.to_ren ?_))
 rw [show (fun j=>β' (selF sel Γ.length j))=βc' from funext hβ];exact hrel
theorem GL.callV {f:FuncId} [hf:Fun P f] (sel:List Nat) {x:Operand} {first cap:List GV} {args:List Operand} {tys:Array TypeId} {gs:List GV} {Γc:List Ob} {R:GV→List Ob→Prop} (hc:GC P f gs Γc R) (hx:gev fr x=.fn (.func f) first cap) (ha:first++args.map (gev fr)++cap=renL (selF sel Γ.length) gs) (hok:okSel sel Γ.length=true)
  (hΓ:seen (selF sel Γ.length) Γ sel Γc) (h:∀ g Γ',R g Γ'→sel.length≤Γ'.length∧GL P m ops Q rest (gput fr d (ren (selF sel Γ.length) g)) (setAll Γ sel (Γ'.map (Ob.ren (selF sel Γ.length))))) :
  GL P m ops Q (⟨d,.call ⟨.value x,args.toArray,tys⟩,ty,pos,af,none⟩::rest) fr Γ :=
 GL.calls (vs:=fun l=>match ev l x with | .func _ a c=>a.toList++args.map (ev l)++c.toList | _=>[]) (fun K β w l hF=>by
  have hr:=hF.ev x
  rw [hx] at hr
  generalize hv:ev l x=v at hr
  cases hr with
  | fn _ xs ys _ _ h1 h2 h3 h4 =>
   refine ⟨?_,?_⟩
   ·rw [←ha]
    exact (RelL.app (RelL.app ⟨h1,h3⟩ (hF.args args)) ⟨h2,h4⟩)
   ·simp [execOp,resolve,hv,Deferred.ofValue,invoke,run_callFunc]) hok hΓ hc h
theorem GL.callP {f:FuncId} [hf:Fun P f] (sel:List Nat) {x:Operand} {args:List Operand} {tys:Array TypeId} {gs:List GV} {Γc:List Ob} {R:GV→List Ob→Prop} (hc:GC P f gs Γc R) (hx:gev fr x=.v (.func (.func f) #[] #[])) (ha:args.map (gev fr)=renL (selF sel Γ.length) gs) (hok:okSel sel Γ.length=true)
  (hΓ:seen (selF sel Γ.length) Γ sel Γc) (h:∀ g Γ',R g Γ'→sel.length≤Γ'.length∧GL P m ops Q rest (gput fr d (ren (selF sel Γ.length) g)) (setAll Γ sel (Γ'.map (Ob.ren (selF sel Γ.length))))) :
  GL P m ops Q (⟨d,.call ⟨.value x,args.toArray,tys⟩,ty,pos,af,none⟩::rest) fr Γ :=
 GL.calls (vs:=fun l=>args.map (ev l)) (fun K β w l hF=>⟨by rw [←ha];exact hF.args args,by
  have hv:=hF.evv hx
  simp [execOp,resolve,hv,Deferred.ofValue,invoke,run_callFunc]⟩) hok hΓ hc h
end
end Go.Xg
namespace Go.Xg
open Go.RowKit Go.Xw
def gGv (ops:List Oper) (fr:List GV):Nat→Option (Option Bool):=fun j =>
 match inL ops j,(nthO ops j).dst with
 | true,some t=>match inL fr t,gnth fr t with
  | true,.v (.bool c)=>some (some c)
  | true,.v (.tuple _)=>some none
  | _,_=>none
 | _,_=>none
section
variable {P:Program} {m:Nat} {Q:GPost} {fr:List GV} {Γ:List Ob} {ops:Array Oper} {rest:List Oper} {d:Option Tmp} {op:Op} {ty:TypeId} {pos:String} {af:Array Edge}
theorem gGv_isB {K:Fz} {β:Bt} {l:List Value} {j:Nat} {b:Bool} {c:Option Bool} (hF:FR K β fr l) (h:gGv ops.toList fr j=some c):isB (some (j,b)) ops.toList l=true∧gv ops.toList l (j,b)=c:=by
 unfold gGv at h
 split at h
 ·rename_i t h1 h2
  split at h
  ·rename_i c' h3 h4
   cases h
   have hv:nth l t=.bool c':=Rel.v_inv (by rw [←h4];exact hF.nth t)
   have hl:=inL_of hF h3
   simp only [isB,gv,h1,h2,hl,hv,Bool.and_self];exact ⟨trivial,trivial⟩
  ·rename_i vs h3 h4
   cases h
   have hv:nth l t=.tuple vs:=Rel.v_inv (by rw [←h4];exact hF.nth t)
   have hl:=inL_of hF h3
   simp only [isB,gv,h1,h2,hl,hv,Bool.and_self];exact ⟨trivial,trivial⟩
  ·cases h
 ·cases h
theorem GL.gt {gd:Nat × Bool} {c:Bool} (hv:gGv ops.toList fr gd.1=some (some c)) (hc:c=gd.2) (h:GL P m ops Q (⟨d,op,ty,pos,af,none⟩::rest) fr Γ):GL P m ops Q (⟨d,op,ty,pos,af,some gd⟩::rest) fr Γ:=fun B K β w l hm hI hF=>by
 obtain ⟨h1,h2⟩:=gGv_isB (b:=gd.2) hF hv
 exact Xw.GT h1 h2 hc (h B K β w l hm hI hF)
theorem GL.gf {gd:Nat × Bool} {c:Bool} (hv:gGv ops.toList fr gd.1=some (some c)) (hc:c=!gd.2) (h:GL P m ops Q rest (gput fr d (.v undef)) Γ):GL P m ops Q (⟨d,op,ty,pos,af,some gd⟩::rest) fr Γ:=fun B K β w l hm hI hF=>by
 obtain ⟨h1,h2⟩:=gGv_isB (b:=gd.2) hF hv
 exact Xw.GF h1 h2 hc (h B K β w _ hm hI (hF.put d (.v _)))
theorem GL.gu {gd:Nat × Bool} (hv:gGv ops.toList fr gd.1=some none) (h:GL P m ops Q rest (gput fr d (.v undef)) Γ):GL P m ops Q (⟨d,op,ty,pos,af,some gd⟩::rest) fr Γ:=fun B K β w l hm hI hF=>by
 obtain ⟨h1,h2⟩:=gGv_isB (b:=gd.2) hF hv
 exact Xw.GU h1 h2 (h B K β w _ hm hI (hF.put d (.v _)))
end
def gG (ops:List Oper) (fr:List GV):Option (Nat × Bool)→Option Bool
 | none=>some true
 | some (j,b)=>match gGv ops fr j with
  | some (some c)=>some (c==b)
  | some none=>some false
  | none=>none
theorem gG_want {ops:Array Oper} {K:Fz} {β:Bt} {fr:List GV} {l:List Value} {o:Oper} {c:Bool} (hF:FR K β fr l) (h:gG ops.toList fr o.guard=some c):Region.wanted o (yielded ops (act l).tmps)=c:=by
 obtain ⟨d,op,ty,pos,af,gd⟩:=o
 cases gd with
 | none=>simp only [gG] at h;cases h;rfl
 | some gd =>
  obtain ⟨j,b⟩:=gd
  simp only [gG] at h
  split at h
  ·rename_i c' hc
   cases h
   obtain ⟨h1,h2⟩:=gGv_isB (b:=b) hF hc
   rw [want_eq h1]
   cases hcb:(c'==b) with
   | true=>exact want_t h2 (by simpa using hcb)
   | false=>exact want_f h2 (by cases c' <;> cases b <;> simp_all)
  ·rename_i hc
   cases h
   obtain ⟨h1,h2⟩:=gGv_isB (b:=b) hF hc
   rw [want_eq h1];exact want_u h2
  ·cases h
def opV (P:Program) (o:Oper) (e:Operand→Value) (w:World) (Kv:Value→World→Prop):Prop :=
 match (execOp e o).run P w with
 | .ok (.value v) w'=>Kv v w'
 | .ok .skip w'=>Kv undef w'
 | .ok (.enter f args) w'=>Calls P f args w' fun e w''=>∃ v,e=.returned v∧Kv v w''
 | .ok (.row row args) w'=>Rows P row args w' Kv
 | _=>False
theorem opV_wp {P:Program} {o:Oper} {a:Act} {w:World} {Kv:Value→World→Prop} {next:Act→World→Prop} {Q:Exit→Act→World→Prop} (h:opV P o a.eval w Kv) (hn:∀ v w',Kv v w'→next (a.put o.dst v) w'):o.wp P a w next Q:=by
 unfold opV at h
 unfold Oper.wp
 generalize (execOp a.eval o).run P w=r at *
 cases r with
 | ok n w' =>
  cases n <;> simp only [Oper.upon] at h ⊢ <;> first
   | exact hn _ _ h
   | exact Calls.mono h (fun e w'' ⟨v,he,hv⟩=>by subst he;exact hn _ _ hv)
   | exact Rows.mono h (fun _ _ hv=>hn _ _ hv)
   | exact h.elim
 | halt x w'=>exact h.elim
theorem wp_opV {P:Program} {o:Oper} {a:Act} {w:World} {Kv:Value→World→Prop} {next:Act→World→Prop} {Q:Exit→Act→World→Prop} (h:o.wp P a w next Q) (hQ:∀ c a w,¬ Q (.panic c) a w) (hQ':∀ a w,¬ Q .outgrown a w) (hn:∀ v w',next (a.put o.dst v) w'→Kv v w')
  (hd:∀ d w',¬ next ({ a with defers:=d::a.defers }.put o.dst undef) w'):opV P o a.eval w Kv:=by
 unfold opV
 unfold Oper.wp at h
 generalize (execOp a.eval o).run P w=r at *
 cases r with
 | ok n w' =>
  cases n <;> simp only [Oper.upon] at h ⊢ <;> first
   | exact hn _ _ h
   | exact Calls.mono h (fun e w'' he=>by
     cases e with
     | returned v=>exact ⟨v,rfl,hn _ _ he⟩
     | panicked c=>exact (hQ _ _ _ he).elim
     | outgrown=>obtain ⟨a0,w0,hf⟩:=he;exact (hQ' _ _ hf).elim)
   | exact Rows.mono h (fun _ _ hv=>hn _ _ hv)
   | exact h.elim
   | exact absurd h (hd _ _)
 | halt x w' =>
  cases x <;> simp only [Oper.upon] at h
  exact (hQ _ _ _ h).elim
def maskF (ts:List Nat):Nat→List GV→List GV
 | _,[]=>[]
 | k,g::gs=>(match ts.contains k with | true=>g | false=>.any)::maskF ts (k+1) gs
theorem FR.mask {K:Fz} {β:Bt} {ts:List Nat} {fr:List GV} {l:List Value} (h:FR K β fr l):∀ k,FR K β (maskF ts k fr) l:=by
 induction h with
 | nil=>intro k;exact .nil
 | cons h t ih =>
  intro k
  rw [maskF]
  split
  ·exact .cons h (ih _)
  ·exact .cons (.any _) (ih _)
theorem mask_put {ts:List Nat} {d:Option Tmp} {g:GV} (hd:∀ t,d=some t→t ∉ ts) (fr:List GV):maskF ts 0 (gput fr d g)=maskF ts 0 fr:=by
 cases d with
 | none=>rfl
 | some t =>
  have hd:=hd t rfl
  have gen:∀ (fr:List GV) (k t:Nat),k+t ∉ ts→maskF ts k (gupd fr t g)=maskF ts k fr:=by
   intro fr
   induction fr with
   | nil=>intro k t _;rfl
   | cons x fr ih =>
    intro k t h
    cases t with
    | zero =>
     have hc:ts.contains k=false:=by
      cases hb:ts.contains k with
      | false=>rfl
      | true=>exact absurd (List.contains_iff_mem.1 hb) (by simpa using h)
     simp only [gupd,maskF,hc]
    | succ t=>simp only [gupd,maskF];rw [ih (k+1) t (by rw [show k+1+t=k+(t+1) by omega];exact h)]
  exact gen fr 0 t (by simpa using hd)
section
variable {P:Program} {ops:Array Oper}
def YQ (P:Program) (ops:Array Oper) (i:Nat) (g:GV) (fr:List GV) (Γ:List Ob):Prop :=
 ∃ o c,ops[i]?=some o∧gG ops.toList (maskF (o.looksAt ops) 0 fr) o.guard=some c∧match c with
  | true=>YG P o.op (maskF (o.looksAt ops) 0 fr) Γ g
  | false=>g=.v undef
abbrev Pend:=List (Nat × GV × List GV)
def GA (P:Program) (o:Oper) (Kt:GV→List Ob→Prop) (fr:List GV) (Γ:List Ob):Prop :=
 ∀ B K β w l,Inv B K β Γ w→FR K β fr l→opV P o (ev l) w fun v w'=>∃ K' β' g Γ',KLe K K'∧BLe β β'∧Inv B K' β' Γ' w'∧(∀ fr l,FR K' β' fr l→FR K' β' (gput fr o.dst g) (put l o.dst v))∧Kt g Γ'
def GI (P:Program) (ops:Array Oper) (i:Nat) (Kt:GV→List Ob→Prop) (fr:List GV) (Γ:List Ob):Prop :=
 ∃ o c,ops[i]?=some o∧gG ops.toList fr o.guard=some c∧match c with
  | true=>GA P o Kt fr Γ
  | false=>Kt (.v undef) Γ
def dstO (ops:Array Oper) (i:Nat):Option Tmp:=(ops[i]?).bind (·.dst)
def waits (ops:Array Oper) (i j:Nat):Bool:=match ops[i]? with
 | some o=>o.after.any fun e=>Region.binds .any e&&e.on==j
 | none=>false
def stay (ops:Array Oper) (i:Nat) (pend:Pend):Pend:=pend.filter fun p=>!waits ops i p.1
def GTr (P:Program) (ops:Array Oper) (Q:List GV→List Ob→Prop):Nat→Pend→Array Bool→List GV→List Ob→Prop
 | 0,_,listed,fr,Γ=>Region.ready .any ops listed=[]∧Q fr Γ
 | n+1,pend,listed,fr,Γ=>(Region.ready .any ops listed=[]→Q fr Γ) ∧
   ∀ i∈Region.ready .any ops listed,GI P ops i (fun g Γ'=>(∀ p∈stay ops i pend,YQ P ops p.1 p.2.1 p.2.2 Γ')∧GTr P ops Q n (stay ops i pend) (listed.setIfInBounds i true) (gput fr (dstO ops i) g) Γ') fr Γ
theorem GA.mono {o:Oper} {Kt Kt':GV→List Ob→Prop} {fr:List GV} {Γ:List Ob} (h:GA P o Kt fr Γ) (hk:∀ g Γ',Kt g Γ'→Kt' g Γ'):GA P o Kt' fr Γ:=fun B K β w l hI hF=>by
 have:=h B K β w l hI hF
 unfold opV at *
 generalize (execOp (ev l) o).run P w=r at *
 have key:∀ v w',(∃ K' β' g Γ',KLe K K'∧BLe β β'∧Inv B K' β' Γ' w'∧(∀ fr l,FR K' β' fr l→FR K' β' (gput fr o.dst g) (put l o.dst v))∧Kt g Γ')→∃ K' β' g Γ',KLe K K'∧BLe β β'∧Inv B K' β' Γ' w'∧(∀ fr l,FR K' β' fr l→FR K' β' (gput fr o.dst g) (put l o.dst v))∧Kt' g Γ' :=
  fun v w' ⟨K',β',g,Γ',h1,h2,h3,h4,h5⟩=>⟨K',β',g,Γ',h1,h2,h3,h4,hk _ _ h5⟩
 cases r with
 | ok n w'=>cases n <;> simp only at this ⊢ <;> first
   | exact key _ _ this
   | exact Calls.mono this (fun e w'' ⟨v,he,hv⟩=>⟨v,he,key _ _ hv⟩)
   | exact Rows.mono this (fun _ _ hv=>key _ _ hv)
   | exact this.elim
 | halt x w'=>exact this.elim
theorem GI.mono {i:Nat} {Kt Kt':GV→List Ob→Prop} {fr:List GV} {Γ:List Ob} (h:GI P ops i Kt fr Γ) (hk:∀ g Γ',Kt g Γ'→Kt' g Γ'):GI P ops i Kt' fr Γ:=by
 obtain ⟨o,c,h1,h2,h3⟩:=h
 refine ⟨o,c,h1,h2,?_⟩
 cases c with
 | true=>exact GA.mono h3 hk
 | false=>exact hk _ _ h3
theorem GTr.fewer {Q:List GV→List Ob→Prop}:∀ (n:Nat) (pend pend':Pend) (listed:Array Bool) (fr:List GV) (Γ:List Ob),(∀ p∈pend',p∈pend)→GTr P ops Q n pend listed fr Γ→GTr P ops Q n pend' listed fr Γ
 | 0,_,_,_,_,_,_,h=>h
 | n+1,pend,pend',listed,fr,Γ,hs,h=>⟨h.1,fun i hi=>(h.2 i hi).mono fun g Γ' ⟨h1,h2⟩=>by
  have hs':∀ p∈stay ops i pend',p∈stay ops i pend:=fun p hp=>by
   simp only [stay,List.mem_filter] at hp ⊢;exact ⟨hs p hp.1,hp.2⟩
  exact ⟨fun p hp=>h1 p (hs' p hp),GTr.fewer n _ _ _ _ _ hs' h2⟩⟩
theorem GTr.sound {m:Nat} {Q:List GV→List Ob→Prop} {B:Bs} {Q':GPost} (hm:B.m=m) (hQ:∀ fr Γ,Q fr Γ→Q' .normal fr Γ):∀ (n:Nat) (pend:Pend) (listed:Array Bool) (fr:List GV) (Γ:List Ob) (K:Fz) (β:Bt) (w:World) (l:List Value),
  GTr P ops Q n pend listed fr Γ→Inv B K β Γ w→FR K β fr l→wpAny P .any ops (lift (gl B Q')) n listed (act l) w
 | 0,_,_,fr,Γ,K,β,w,l,h,hI,hF=>⟨h.1,l,rfl,K,β,fr,Γ,hI,hF,hQ _ _ h.2⟩
 | n+1,pend,listed,fr,Γ,K,β,w,l,h,hI,hF=>by
  refine ⟨fun h0=>⟨l,rfl,K,β,fr,Γ,hI,hF,hQ _ _ (h.1 h0)⟩,fun i hi=>?_⟩
  obtain ⟨o,c,ho,hg,hc⟩:=h.2 i hi
  have hw:=gG_want hF hg
  unfold wpOp
  simp only [ho,hw]
  have hd:dstO ops i=o.dst:=by simp [dstO,ho]
  cases c with
  | true =>
   simp only [if_true]
   refine .inl (opV_wp (by rw [act_eval];exact hc B K β w l hI hF) ?_)
   rintro v w' ⟨K',β',g,Γ',hK,hB,hI',hf,h1,h2⟩
   rw [act_put]
   rw [hd] at h2
   exact GTr.sound hm hQ n _ _ _ _ K' β' w' _ h2 hI' (hf _ _ (hF.mono hK hB))
  | false =>
   simp only [Bool.false_eq_true,if_false]
   rw [act_put]
   obtain ⟨h1,h2⟩:=hc
   rw [hd] at h2
   exact GTr.sound hm hQ n _ _ _ _ K β w _ h2 hI (hF.put o.dst (.v _))
theorem gnth_upd_ne {fr:List GV} {t t':Nat} (h:t'≠t) (g:GV):gnth (gupd fr t g) t'=gnth fr t':=by
 induction fr generalizing t t' with
 | nil=>rfl
 | cons x l ih=>cases t with
  | zero=>cases t' with | zero=>exact absurd rfl h | succ t'=>rfl
  | succ t=>cases t' with | zero=>rfl | succ t'=>exact ih (fun e=>h (by rw [e]))
theorem inL_upd {fr:List GV} {t t':Nat} {g:GV}:inL (gupd fr t g) t'=inL fr t':=by
 induction fr generalizing t t' with
 | nil=>rfl
 | cons x l ih=>cases t with
  | zero=>cases t' <;> rfl
  | succ t=>cases t' with | zero=>rfl | succ t'=>exact ih
theorem gG_put {o:Oper} {fr:List GV} {d:Option Tmp} {g:GV} (h:∀ t,d=some t→t ∉ o.looksAt ops):gG ops.toList (gput fr d g) o.guard=gG ops.toList fr o.guard:=by
 cases d with
 | none=>rfl
 | some t =>
  have h:=h t rfl
  obtain ⟨d',op,ty,pos,af,gd⟩:=o
  cases gd with
  | none=>rfl
  | some gd =>
   obtain ⟨j,b⟩:=gd
   have hne:∀ t',inL ops.toList j=true→(nthO ops.toList j).dst=some t'→t'≠t:=fun t' hj ht' he=>by
    subst he
    apply h
    have hj':=nthO_lt ops.toList j (inL_lt hj)
    simp only [Array.toArray_toList] at hj'
    simp [Oper.looksAt,hj',ht']
   have hv:gGv ops.toList (gupd fr t g) j=gGv ops.toList fr j:=by
    unfold gGv
    cases hin:inL ops.toList j with
    | false=>rfl
    | true =>
     cases hd:(nthO ops.toList j).dst with
     | none=>rfl
     | some t' =>
      simp only
      rw [inL_upd,gnth_upd_ne (hne t' hin hd)]
   simp only [gG,gput,hv]
theorem YQ.at {i:Nat} {g:GV} {fr:List GV} {Γ:List Ob} {o:Oper} (h:YQ P ops i g fr Γ) (ho:ops[i]?=some o) {B:Bs} {K:Fz} {β:Bt} {w:World} {l:List Value} (hI:Inv B K β Γ w) (hF:FR K β fr l):∃ v,Rel K β v g∧((Region.wanted o (yielded ops (act l).tmps)=true∧(execOp (ev l) o).run P w=.ok (.value v) w)∨(Region.wanted o (yielded ops (act l).tmps)=false∧v=undef)):=by
 obtain ⟨o',c,h1,h2,h3⟩:=h
 rw [ho] at h1;cases h1
 have hw:=gG_want (hF.mask (ts:=o.looksAt ops) 0) h2
 cases c with
 | true =>
  obtain ⟨v,hr,hv⟩:=h3 B K β w l hI (hF.mask 0)
  exact ⟨v,hv,.inl ⟨hw,by obtain ⟨d,op,ty,pos,af,gd⟩:=o;exact hr d ty pos af⟩⟩
 | false=>subst h3;exact ⟨undef,.v _,.inr ⟨hw,rfl⟩⟩
theorem GI.comm {i j:Nat} {g:GV} {oi oj:Oper} {Kt:GV→List Ob→Prop} {fr:List GV} {Γ:List Ob} (hi:ops[i]?=some oi) (hj:ops[j]?=some oj) (hap:oi.apart ops oj=true) (hsj:∀ cs b,oj.op≠.select cs b) (hy:YQ P ops i g fr Γ)
  (h:GI P ops j Kt (gput fr oi.dst g) Γ):GI P ops j Kt fr Γ:=by
 obtain ⟨a1,a2,a3⟩:=Oper.apart_spec hap
 obtain ⟨o,c,h1,h2,h3⟩:=h
 rw [hj] at h1;cases h1
 rw [gG_put a1] at h2
 refine ⟨oj,c,hj,h2,?_⟩
 cases c with
 | false=>exact h3
 | true =>
  intro B K β w l hI hF
  obtain ⟨v,hv,_⟩:=hy.at hi hI hF
  have:=h3 B K β w (put l oi.dst v) hI (hF.put _ hv)
  have he:execOp (ev (put l oi.dst v)) oj=execOp (ev l) oj:=by
   have:=execOp_put oj hsj (act l) oi.dst v a1
   rw [act_put,act_eval,act_eval] at this;exact this
  unfold opV at this ⊢
  rw [he] at this
  exact this
theorem GTr.first {Q:List GV→List Ob→Prop} {i:Nat} {oi:Oper} {g:GV} {fr0:List GV} (hi:ops[i]?=some oi) (hsel:∀ (j:Nat) (o:Oper) cs b,ops[j]?=some o→o.op≠.select cs b) :
  ∀ (n:Nat) (pend:Pend) (listed:Array Bool) (fr:List GV) (Γ:List Ob),
   (∀ j oj,ops[j]?=some oj→j≠i→listed.getD j true=false→(∀ e∈oj.after,Region.binds .any e=true→e.on≠i)→oi.apart ops oj=true) →
   i∈Region.ready .any ops listed→maskF (oi.looksAt ops) 0 fr=maskF (oi.looksAt ops) 0 fr0→YQ P ops i g fr0 Γ→(∀ p∈pend,YQ P ops p.1 p.2.1 p.2.2 Γ) →
   GTr P ops Q n ((i,g,fr0)::pend) (listed.setIfInBounds i true) (gput fr oi.dst g) Γ→GTr P ops Q (n+1) pend listed fr Γ:=by
 have hd:dstO ops i=oi.dst:=by simp [dstO,hi]
 have tofr:∀ {fr:List GV} {Γ:List Ob},maskF (oi.looksAt ops) 0 fr=maskF (oi.looksAt ops) 0 fr0→YQ P ops i g fr0 Γ→YQ P ops i g fr Γ:=by
  rintro fr Γ hm ⟨o,c,h1,h2,h3⟩
  rw [hi] at h1;cases h1
  exact ⟨oi,c,hi,by rw [hm];exact h2,by rw [hm];exact h3⟩
 have self:∀ (n:Nat) (pend:Pend) (listed:Array Bool) (fr:List GV) (Γ:List Ob),maskF (oi.looksAt ops) 0 fr=maskF (oi.looksAt ops) 0 fr0→YQ P ops i g fr0 Γ→(∀ p∈pend,YQ P ops p.1 p.2.1 p.2.2 Γ) →
   GTr P ops Q n ((i,g,fr0)::pend) (listed.setIfInBounds i true) (gput fr oi.dst g) Γ →
   GI P ops i (fun g Γ'=>(∀ p∈stay ops i pend,YQ P ops p.1 p.2.1 p.2.2 Γ')∧GTr P ops Q n (stay ops i pend) (listed.setIfInBounds i true) (gput fr (dstO ops i) g) Γ') fr Γ:=by
  intro n pend listed fr Γ hmk hy hp H
  have hst:∀ p∈stay ops i pend,p∈pend:=fun p hp=>by simp only [stay,List.mem_filter] at hp;exact hp.1
  have H':GTr P ops Q n (stay ops i pend) (listed.setIfInBounds i true) (gput fr (dstO ops i) g) Γ:=by
   rw [hd];exact GTr.fewer n _ _ _ _ _ (fun p hp=>List.mem_cons_of_mem _ (hst p hp)) H
  obtain ⟨o,c,h1,h2,h3⟩:=tofr hmk hy
  rw [hi] at h1;cases h1
  have h2':gG ops.toList fr oi.guard=some c:=by
   obtain ⟨d',op,ty,pos,af,gd⟩:=oi
   cases gd with
   | none=>exact h2
   | some gd =>
    obtain ⟨j,b⟩:=gd
    simp only [gG] at h2 ⊢
    have hv:∀ x,gGv ops.toList (maskF (Oper.looksAt ops ⟨d',op,ty,pos,af,some (j,b)⟩) 0 fr) j=some x→gGv ops.toList fr j=some x:=by
     intro x hx
     unfold gGv at hx ⊢
     cases hin:inL ops.toList j with
     | false=>rw [hin] at hx;cases hx
     | true =>
      rw [hin] at hx
      cases hdt:(nthO ops.toList j).dst with
      | none=>rw [hdt] at hx;cases hx
      | some t =>
       rw [hdt] at hx
       simp only at hx ⊢
       have hil:∀ (ts:List Nat) (fr:List GV) (k t:Nat),inL (maskF ts k fr) t=inL fr t:=by
        intro ts fr
        induction fr with
        | nil=>intro k t;rfl
        | cons x fr ih=>intro k t;cases t with | zero=>rfl | succ t=>exact ih (k+1) t
       have hgn:∀ (ts:List Nat) (fr:List GV) (k t:Nat) ,gnth (maskF ts k fr) t=gnth fr t∨gnth (maskF ts k fr) t=.any:=by
        intro ts fr
        induction fr with
        | nil=>intro k t;exact .inl rfl
        | cons x fr ih =>
         intro k t
         cases t with
         | zero=>simp only [maskF,gnth];split <;> first | exact .inl rfl | exact .inr rfl
         | succ t=>exact ih (k+1) t
       rw [hil] at hx
       rcases hgn (Oper.looksAt ops ⟨d',op,ty,pos,af,some (j,b)⟩) fr 0 t with h | h
       ·rw [h] at hx;exact hx
       ·rw [h] at hx
        split at hx <;> first | (rename_i h5;cases h5;done) | cases hx
    split at h2
    ·rename_i c' hc;rw [hv _ hc];exact h2
    ·rename_i hc;rw [hv _ hc];exact h2
    ·cases h2
  refine ⟨oi,c,hi,h2',?_⟩
  have hp':∀ p∈stay ops i pend,YQ P ops p.1 p.2.1 p.2.2 Γ:=fun p hq=>hp p (hst p hq)
  cases c with
  | true =>
   intro B K β w l hI hF
   obtain ⟨v,hr,hv⟩:=h3 B K β w l hI (hF.mask 0)
   have hrun:(execOp (ev l) oi).run P w=.ok (.value v) w:=by obtain ⟨d,op,ty,pos,af,gd⟩:=oi;exact hr d ty pos af
   unfold opV
   rw [hrun]
   exact ⟨K,β,g,Γ,KLe.refl K,BLe.refl β,hI,fun fr l hf=>hf.put _ hv,hp',H'⟩
  | false =>
   simp only at h3
   subst h3
   exact ⟨hp',H'⟩
 intro n
 induction n with
 | zero =>
  intro pend listed fr Γ _ hr hmk hy hp H
  refine ⟨fun h=>(by rw [h] at hr;cases hr),fun j hj=>?_⟩
  by_cases hji:j=i
  ·subst hji;exact self 0 pend listed fr Γ hmk hy hp H
  ·have:=ready_mono hj hji
   rw [H.1] at this
   cases this
 | succ n ih =>
  intro pend listed fr Γ hfree hr hmk hy hp H
  refine ⟨fun h=>(by rw [h] at hr;cases hr),fun j hj=>?_⟩
  by_cases hji:j=i
  ·subst hji;exact self (n+1) pend listed fr Γ hmk hy hp H
  ·have h1:=H.2 j (ready_mono hj hji)
   obtain ⟨hjun,oj,hoj,hall⟩:=mem_ready.1 hj
   have hnot:∀ e∈oj.after,Region.binds .any e=true→e.on≠i:=fun e he hb heq=>by
    have h1:=hall e he hb
    have h0:=(mem_ready.1 hr).1
    rw [heq] at h1
    rcases Nat.lt_or_ge i listed.size with h' | h'
    ·simp [h'] at h0 h1;rw [h0] at h1;cases h1
    ·simp [Array.getElem?_eq_none h'] at h1
   have hap:=hfree j oj hoj hji hjun hnot
   obtain ⟨a1,a2,a3⟩:=Oper.apart_spec hap
   have hnw:waits ops j i=false:=by
    simp only [waits,hoj]
    rw [Array.any_eq_false']
    intro e he hb
    simp only [Bool.and_eq_true,beq_iff_eq] at hb
    exact hnot e he hb.1 hb.2
   have hst:stay ops j ((i,g,fr0)::pend)=(i,g,fr0)::stay ops j pend:=by
    simp [stay,List.filter_cons,hnw]
   rw [hst] at h1
   have h2:=GI.comm hi hoj hap (fun cs b=>hsel j oj cs b hoj) (tofr hmk hy) h1
   have hdj:dstO ops j=oj.dst:=by simp [dstO,hoj]
   have hfree':∀ k ok,ops[k]?=some ok→k≠i→(listed.setIfInBounds j true).getD k true=false →
     (∀ e∈ok.after,Region.binds .any e=true→e.on≠i)→oi.apart ops ok=true:=fun k ok hk hki hun hno=>by
    refine hfree k ok hk hki ?_ hno
    by_cases hjk:j=k
    ·subst hjk;exact hjun
    ·rw [getD_set_ne true hjk] at hun;exact hun
   refine h2.mono fun gj Γ' ⟨h3,h4⟩=>⟨fun p hp=>h3 p (List.mem_cons_of_mem _ hp),?_⟩
   refine ih (stay ops j pend) (listed.setIfInBounds j true) (gput fr (dstO ops j) gj) Γ' hfree' (ready_mono hr (Ne.symm hji)) ?_ (h3 (i,g,fr0) (List.mem_cons_self)) (fun p hp=>h3 p (List.mem_cons_of_mem _ hp)) ?_
   ·rw [←hmk,hdj];exact mask_put a3 fr
   ·rw [Array.setIfInBounds_comm _ _ hji]
    have hcomm:gput (gput fr (dstO ops j) gj) oi.dst g=gput (gput fr oi.dst g) (dstO ops j) gj:=by
     rw [hdj]
     cases hdi:oi.dst with
     | none=>rfl
     | some t =>
      cases hdj':oj.dst with
      | none=>rfl
      | some u =>
       have hne:t≠u:=fun e=>a2 t hdi (by rw [hdj',e])
       have gen:∀ (fr:List GV) (t u:Nat),t≠u→gupd (gupd fr u gj) t g=gupd (gupd fr t g) u gj:=by
        intro fr
        induction fr with
        | nil=>intro t u _;rfl
        | cons x fr ih =>
         intro t u h
         cases t with
         | zero=>cases u with | zero=>exact absurd rfl h | succ u=>rfl
         | succ t=>cases u with | zero=>rfl | succ u=>simp only [gupd];rw [ih t u (fun e=>h (by rw [e]))]
       exact gen fr t u hne
    rw [hcomm];exact h4
inductive Ot where
 | nil
 | q (i:Nat) (r:Ot)
 | a (i:Nat) (r:Ot)
 | f (i:Nat) (r:Ot) (j:Nat) (s:Ot)
def Ot.len:Ot→Nat
 | .nil=>0
 | .q _ r=>r.len+1
 | .a _ r=>r.len+1
 | .f _ r _ _=>r.len+1
def okOt (ops:Array Oper):Ot→Array Bool→Bool
 | .nil,listed=>(Region.ready .any ops listed).isEmpty
 | .q i r,listed=>(Region.ready .any ops listed).contains i&&Region.free .any ops listed i&&okOt ops r (listed.setIfInBounds i true)
 | .a i r,listed=>(Region.ready .any ops listed==[i])&&okOt ops r (listed.setIfInBounds i true)
 | .f i r j s,listed=>(Region.ready .any ops listed==[i,j])&&okOt ops r (listed.setIfInBounds i true)&&okOt ops s (listed.setIfInBounds j true)&&(r.len==s.len)
def GO (P:Program) (ops:Array Oper) (Q:List GV→List Ob→Prop):Ot→Pend→List GV→List Ob→Prop
 | .nil,_,fr,Γ=>Q fr Γ
 | .q i r,pend,fr,Γ=>∃ g,YQ P ops i g fr Γ∧GO P ops Q r ((i,g,fr)::pend) (gput fr (dstO ops i) g) Γ
 | .a i r,pend,fr,Γ=>GI P ops i (fun g Γ'=>(∀ p∈stay ops i pend,YQ P ops p.1 p.2.1 p.2.2 Γ')∧GO P ops Q r (stay ops i pend) (gput fr (dstO ops i) g) Γ') fr Γ
 | .f i r j s,pend,fr,Γ=>GI P ops i (fun g Γ'=>(∀ p∈stay ops i pend,YQ P ops p.1 p.2.1 p.2.2 Γ')∧GO P ops Q r (stay ops i pend) (gput fr (dstO ops i) g) Γ') fr Γ∧GI P ops j (fun g Γ'=>(∀ p∈stay ops j pend,YQ P ops p.1 p.2.1 p.2.2 Γ')∧GO P ops Q s (stay ops j pend) (gput fr (dstO ops j) g) Γ') fr Γ
theorem GO.fork {ops:Array Oper} {Q:List GV→List Ob→Prop} {i j:Nat} {r s:Ot} {pend:Pend} {fr:List GV} {Γ:List Ob} (h1:GO P ops Q (.a i r) pend fr Γ) (h2:GO P ops Q (.a j s) pend fr Γ):GO P ops Q (.f i r j s) pend fr Γ:=⟨h1,h2⟩
theorem GO.all {ol:List Oper} {Q:List GV→List Ob→Prop} (hs:Region.noSelect ol.toArray=true):∀ (ord:Ot) (pend:Pend) (listed:Array Bool) (fr:List GV) (Γ:List Ob),
  okOt ol.toArray ord listed=true→(∀ p∈pend,YQ P ol.toArray p.1 p.2.1 p.2.2 Γ)→GO P ol.toArray Q ord pend fr Γ→GTr P ol.toArray Q ord.len pend listed fr Γ
 | .nil,pend,listed,fr,Γ,ho,_,h=>⟨by simpa [okOt] using ho,h⟩
 | .q i r,pend,listed,fr,Γ,ho,hp,h=>by
  simp only [okOt,Bool.and_eq_true] at ho
  obtain ⟨⟨hr,hf⟩,ho⟩:=ho
  obtain ⟨g,hy,h⟩:=h
  have hmem:i∈Region.ready .any ol.toArray listed:=by simpa using hr
  obtain ⟨_,o,hi,_⟩:=mem_ready.1 hmem
  have hd:dstO ol.toArray i=o.dst:=by simp only [dstO,hi];rfl
  rw [hd] at h
  exact GTr.first hi (Region.noSelect_spec hs) _ pend listed fr Γ (Region.free_spec hi hf) hmem rfl hy hp (GO.all hs r _ _ _ _ ho (fun p hp'=>by
   rcases List.mem_cons.1 hp' with rfl | hp'
   ·exact hy
   ·exact hp p hp') h)
 | .a i r,pend,listed,fr,Γ,ho,hp,h=>by
  simp only [okOt,Bool.and_eq_true,beq_iff_eq] at ho
  obtain ⟨hr,ho⟩:=ho
  refine ⟨fun h0=>by rw [h0] at hr;simp at hr,fun j hj=>?_⟩
  rw [hr,List.mem_singleton] at hj
  subst hj
  exact GI.mono h fun g Γ' ⟨h1,h2⟩=>⟨h1,GO.all hs r _ _ _ _ ho h1 h2⟩
 | .f i r j s,pend,listed,fr,Γ,ho,hp,h=>by
  simp only [okOt,Bool.and_eq_true,beq_iff_eq] at ho
  obtain ⟨⟨⟨hr,ho1⟩,ho2⟩,hl⟩:=ho
  refine ⟨fun h0=>by rw [h0] at hr;simp at hr,fun k hk=>?_⟩
  rw [hr] at hk
  simp only [List.mem_cons,List.not_mem_nil,or_false] at hk
  rcases hk with rfl | rfl
  ·exact GI.mono h.1 fun g Γ' ⟨h1,h2⟩=>⟨h1,GO.all hs r _ _ _ _ ho1 h1 h2⟩
  ·exact GI.mono h.2 fun g Γ' ⟨h1,h2⟩=>⟨h1,by
    have:=GO.all hs s _ _ _ _ ho2 h1 h2
    rw [←hl] at this;exact this⟩
theorem GW.draw {m id:Nat} {ol:List Oper} {Q:GPost} {fr:List GV} {Γ:List Ob} (ord:Ot) (hm:P.follows .mixedOrders=true)
  (hok:(Region.noSelect ol.toArray&&(ord.len==ol.length)&&okOt ol.toArray ord (Array.replicate ol.toArray.size false))=true)
  (h:GO P ol.toArray (Q .normal) ord [] fr Γ):GW P m (.region id ol.toArray true) Q fr Γ:=fun B K β w l hB hI hF=>by
 simp only [Bool.and_eq_true,beq_iff_eq] at hok
 obtain ⟨⟨hs,hl⟩,ho⟩:=hok
 refine wp_region_any hm ?_
 have h1:=GO.all hs ord [] _ fr Γ ho (fun p hp=>by cases hp) h
 rw [hl] at h1
 have h2:=GTr.sound (Q':=Q) hB (fun fr Γ h=>h) _ _ _ _ _ K β w.drew l h1 (hI.same (Ext.drew w)) hF
 simpa using h2
end
end Go.Xg
