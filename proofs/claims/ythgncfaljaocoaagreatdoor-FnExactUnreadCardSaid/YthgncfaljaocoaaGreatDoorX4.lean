/- Part 4 of proofs that are told in their last texts. -/
import Derived.WalkKit
import Derived.KernelRfl
import Derived.Orders
open List (all_cons eq_nil_of_length_eq_zero flatten_cons getElem?_append_left getElem?_drop getElem?_map getElem?_set getElem?_take length_cons map_nil map_toArray mem_cons_of_mem mem_cons_self mem_filter mem_of_getElem? size_toArray)
set_option linter.unusedVariables false
set_option linter.unusedSimpArgs false
set_option maxRecDepth 100000
namespace Go.Xw
open Go.RowKit
def nth:List Value->Nat->Value
 | [],_=>undef
 | v::_,0=>v
 | _::l,n+1=>nth l n
def eF:List Value->Nat->Value->List Value
 | [],_,_=>[]
 | _::l,0,v=>v::l
 | x::l,n+1,v=>x::eF l n v
def ev (l:List Value):Operand->Value
 | .tmp t=>nth l t
 | .const v=>v
 | .global g=>.pointer (some ⟨g,0,none⟩)
 | .func f=>.func (.func f) #[] #[]
def put (l:List Value) (d:Option Tmp) (v:Value):List Value :=
 match d with | some d=>eF l d v | none=>l
theorem jm (l:List Value) (t:Nat):l.toArray.getD t undef=nth l t:=by
 induction l generalizing t with
 | nil=>simp [nth]
 | cons x l ih =>
  cases t with
  | zero=>simp [nth]
  | succ t=>rw [nth,<-ih];simp [Array.getD]
theorem xb (l:List Value) (t:Nat) (v:Value):l.toArray.setIfInBounds t v=(eF l t v).toArray:=by
 have h:∀ (l:List Value) t,eF l t v=l.set t v:=by
  intro l
  induction l with
  | nil=>intro t;rfl
  | cons x l ih=>intro t;cases t with | zero=>rfl | succ t=>simp [eF,ih]
 rw [h];simp
def act (l:List Value):Act:=⟨l.toArray,[]⟩
theorem mq (l:List Value):(act l).eval=ev l:=by
 funext x;cases x <;> first | rfl | exact jm l _
theorem oe (l:List Value) (d:Option Tmp) (v:Value):(act l).put d v=act (put l d v):=by
 cases d with
 | none=>rfl
 | some d=>simp only [act,Act.put,put];rw [xb]
abbrev kK:=Exit->List Value->World->Prop
def lift (Q:kK):Exit->Act->World->Prop:=fun e a w=>∃ l,a=act l/\Q e l w
def W (P:Program) (c:Code) (Q:kK) (l:List Value) (w:World):Prop:=c.wp P (lift Q) (act l) w
def WL (P:Program) (ops:Array Oper) (Q:kK) (rest:List Oper) (l:List Value) (w:World):Prop :=
 wpList P ops (lift Q) rest (act l) w
def Vj (next:List Value->World->Prop) (Q:kK):kK
 | .normal,l,w=>next l w
 | e,l,w=>Q e l w
def Sh (id:Nat) (Q:kK):kK
 | .exit zN,l,w=>if zN=id then Q .normal l w else Q (.exit zN) l w
 | e,l,w=>Q e l w
section
variable {P:Program} {Q:kK} {l:List Value} {w:World} {ops:Array Oper} {rest:List Oper}
theorem W.seq {x y:Code} (h:W P x (Vj (W P y Q) Q) l w):W P (.seq x y) Q l w:=by
 refine wp_seq (wp_mono h ?_);rintro e a w ⟨l,rfl,hq⟩
 cases e <;> first | exact hq | exact ⟨l,rfl,hq⟩
theorem W.skip (h:Q .normal l w):W P .skip Q l w:=wp_skip ⟨l,rfl,h⟩
theorem W.exit {n:Nat} (h:Q (.exit n) l w):W P (.exit n) Q l w:=wp_exit ⟨l,rfl,h⟩
theorem W.ret (h:Q .ret l w):W P .ret Q l w:=wp_ret ⟨l,rfl,h⟩
theorem W.block {id:Nat} {c:Code} (h:W P c (Sh id Q) l w):W P (.block id c) Q l w:=by
 refine wp_block (wp_mono h ?_);rintro e a w ⟨l,rfl,hq⟩
 cases e with
 | exit zN =>
  simp only [Sh] at hq;simp only [Exit.inBlock];split <;> rename_i hh
  ·rw [if_pos hh] at hq;exact ⟨l,rfl,hq⟩
  ·rw [if_neg hh] at hq;exact ⟨l,rfl,hq⟩
 | normal=>exact ⟨l,rfl,hq⟩
 | goto _=>exact ⟨l,rfl,hq⟩
 | ret=>exact ⟨l,rfl,hq⟩
 | panic _=>exact ⟨l,rfl,hq⟩
 | outgrown=>exact ⟨l,rfl,hq⟩
theorem W.cond {c:Operand} {x y:Code} {t:Bool} (hc:ev l c=.bool t) (ht:t=true->W P x Q l w) (hf:t=false->W P y Q l w):W P (.cond c x y) Q l w:=by
 refine wp_cond_split (t:=t) (by rw [mq];exact hc) ht hf
theorem W.mono {c:Code} {Q':kK} (h:W P c Q l w) (hq:∀ e l w,Q e l w->Q' e l w):W P c Q' l w :=
 wp_mono h fun _ _ _ ⟨l,ha,q⟩=>⟨l,ha,hq _ _ _ q⟩
theorem W.loop {c:Code} {α:Type} (μ:α->Nat) (I:α->List Value->World->Prop) (x:α) (h0:I x l w)
  (round:∀ x l w,I x l w->W P c (Vj (fun l' w'=>∃ y,I y l' w'/\μ y < μ x) Q) l w):W P (.loop c) Q l w:=by
 have key:∀ n x l w,μ x=n->I x l w->∀ (b:Frame) (k:List Item) (cs:List Frame),
   ∃ e a' w',lift Q e a' w'/\Arrives P (lone (b.at (act l) (.code c::.inLoop c::k)) cs w) b k cs e a' w':=by
  intro n
  induction n using Nat.strongRecOn with
  | _ n ih =>
   intro x l w hn hI b k cs;obtain ⟨e,YH,Bo,hq,wo⟩:=round x l w hI b (.inLoop c::k) cs;obtain ⟨A3,rfl,hq⟩:=hq
   cases e with
   | normal =>
    obtain ⟨y,Tx,aq⟩:=hq;obtain ⟨Vv,Vq,Wz,TJ,PM⟩:=ih (μ y) (hn ▸ aq) y A3 Bo rfl Tx b k cs;exact ⟨Vv,Vq,Wz,TJ,.of_steps (Steps.trans wo (.one step_inLoop)) PM⟩
   | exit id=>exact ⟨_,_,Bo,⟨A3,rfl,hq⟩,.pass (x:=.inLoop c) rfl (fun _ _=>.inl (by simp)) wo⟩
   | goto _=>exact ⟨_,_,Bo,⟨A3,rfl,hq⟩,.pass (x:=.inLoop c) rfl (fun _ _=>.inl (by simp)) wo⟩
   | ret=>exact ⟨_,_,Bo,⟨A3,rfl,hq⟩,.pass (x:=.inLoop c) rfl (fun _ _=>.inl (by simp)) wo⟩
   | panic ch=>exact ⟨_,_,Bo,⟨A3,rfl,hq⟩,.pass (x:=.inLoop c) rfl (fun _ _=>.inl (by simp)) wo⟩
   | outgrown=>exact ⟨_,_,Bo,⟨A3,rfl,hq⟩,.pass (x:=.inLoop c) rfl (fun _ _=>.inl (by simp)) wo⟩
 intro b k cs;obtain ⟨e,a',w',hq,wo⟩:=key _ x l w rfl h0 b k cs;exact ⟨e,a',w',hq,.of_steps (.one step_loop) wo⟩
theorem W.region {id:Nat} {ol:List Oper} (h:WL P ol.toArray Q ol l w):W P (.region id ol.toArray false) Q l w :=
 wp_region_lit h
theorem WL.nil (h:Q .normal l w):WL P ops Q [] l w:=⟨l,rfl,h⟩
theorem WL.val {d:Option Tmp} {op:Op} {ty:TypeId} {pos:String} {af:Array Edge} {v:Value} {w':World}
  (hr:(execOp (ev l) ⟨d,op,ty,pos,af,none⟩).run P w=.ok (.value v) w')
  (h:WL P ops Q rest (put l d v) w'):WL P ops Q (⟨d,op,ty,pos,af,none⟩::rest) l w:=by
 refine wpList_plain rfl fun K hK=>?_
 simp only [Oper.wp,mq,hr,Oper.upon_value,oe];exact hK _ _ h
theorem WL.Yp {d:Option Tmp} {op:Op} {ty:TypeId} {pos:String} {af:Array Edge} {w':World}
  (hr:(execOp (ev l) ⟨d,op,ty,pos,af,none⟩).run P w=.ok .skip w')
  (h:WL P ops Q rest (put l d undef) w'):WL P ops Q (⟨d,op,ty,pos,af,none⟩::rest) l w:=by
 refine wpList_plain rfl fun K hK=>?_
 simp only [Oper.wp,mq,hr,Oper.upon_skip,oe];exact hK _ _ h
theorem WL.gt {d:Option Tmp} {op:Op} {ty:TypeId} {pos:String} {af:Array Edge} {g:Option (Nat × Bool)}
  (hw:Region.wanted ⟨d,op,ty,pos,af,g⟩ (yielded ops (act l).tmps)=true)
  (h:WL P ops Q (⟨d,op,ty,pos,af,none⟩::rest) l w):WL P ops Q (⟨d,op,ty,pos,af,g⟩::rest) l w:=by
 unfold WL wpList at *;rw [if_pos hw];rw [if_pos (by rfl)] at h;exact h
theorem WL.gf {d:Option Tmp} {op:Op} {ty:TypeId} {pos:String} {af:Array Edge} {g:Option (Nat × Bool)}
  (hw:Region.wanted ⟨d,op,ty,pos,af,g⟩ (yielded ops (act l).tmps)=false)
  (h:WL P ops Q rest (put l d undef) w):WL P ops Q (⟨d,op,ty,pos,af,g⟩::rest) l w:=by
 unfold WL wpList;rw [if_neg (by rw [hw];decide)];show wpList P ops (lift Q) rest ((act l).put d undef) w;rw [oe];exact h
end
section
variable {next:List Value->World->Prop} {Q:kK} {l:List Value} {w:World} {id zN:Nat}
end
end Go.Xw
namespace Go.Xw
open Go.RowKit
structure Ext (S:Nat->Prop) (w w':World):Prop where
 os:w'.os=w.os
 tape:w'.tape=w.tape
 output:w'.output=w.output
 size:w.heap.size<=w'.heap.size
 block:∀ k,k < w.heap.size->¬ S k->w'.heap[k]?=w.heap[k]?
abbrev gX:Nat->Prop:=fun _=>False
theorem Ext.refl {S:Nat->Prop} (w:World):Ext S w w:=⟨rfl,rfl,rfl,Nat.le_refl _,fun _ _ _=>rfl⟩
theorem Ext.trans {S:Nat->Prop} {a b c:World} (h:Ext S a b) (k:Ext S b c):Ext S a c :=
 ⟨k.os.trans h.os,k.tape.trans h.tape,k.output.trans h.output,Nat.le_trans h.size k.size,
  fun i hi hs=>(k.block i (Nat.lt_of_lt_of_le hi h.size) hs).trans (h.block i hi hs)⟩
theorem Ext.step {S0 S:Nat->Prop} {a b c:World} (h:Ext S0 a b) (k:Ext S b c) (hs:∀ j,S j->a.heap.size<=j\/S0 j):Ext S0 a c :=
 ⟨k.os.trans h.os,k.tape.trans h.tape,k.output.trans h.output,Nat.le_trans h.size k.size,
  fun i hi hn=>(k.block i (Nat.lt_of_lt_of_le hi h.size) fun RZ=>by
   rcases hs i RZ with h1 | h1
   ·omega
   ·exact hn h1).trans (h.block i hi hn)⟩
theorem Ext.mono {S S':Nat->Prop} {a b:World} (h:Ext S a b) (hs:∀ k,k < a.heap.size->S k->S' k):Ext S' a b :=
 ⟨h.os,h.tape,h.output,h.size,fun i hi hn=>h.block i hi fun x=>hn (hs i hi x)⟩
theorem Ext.blk {S:Nat->Prop} {a b:World} (h:Ext S a b) {k:Nat} {o:Obj} (hv:a.heap[k]?=some o) (hs:¬ S k):b.heap[k]?=some o:=by
 rw [h.block k (by have:=(Array.getElem?_eq_some_iff.1 hv).1;exact this) hs,hv]
theorem qE {w:World} {k:Nat} {o:Obj} (hv:w.heap[k]?=some o):k < w.heap.size:=(Array.getElem?_eq_some_iff.1 hv).1
theorem Js {w:World} {b o:Nat} {cs:Array Value} {E:TypeId} {fz:Nat × Nat} {v:Value} (hb:w.heap[b]?=some (.cells cs E fz)) (hv:cs[o]?=some v):w.cell? ⟨b,o,none⟩=some v:=by
 rw [cell_of_row w b o cs E fz hb,hv]
theorem Ext.below {a b:World} (h:Ext gX a b):Below a.heap.size a b:=⟨h.os,h.tape,h.output,h.size,fun k hk=>h.block k hk (fun x=>x)⟩
structure tU (w w':World) (b:Nat) (o:Obj):Prop where
 fresh:b=w.heap.size
 size:w'.heap.size=b+1
 blk:w'.heap[b]?=some o
 ext:Ext gX w w'
theorem tU.of (w:World) (o:Obj):tU w (w.alloc o) w.heap.size o :=
 ⟨rfl,by simp,heap_alloc_new w o,⟨rfl,rfl,rfl,by simp,fun k hk _=>Below.heap_alloc _ _ _ hk⟩⟩
def xe:TypeDesc->Bool
 | .struct _=>true
 | .array _ _=>true
 | _=>false
class Ty (P:Program) (t:TypeId) (agg:outParam Bool) (k:outParam Nat):Prop where
 und:(P.underlying t).map xe=some agg
 siz:(P.info? t).map (·.size)=some k
class ma (P:Program) (t:TypeId) (e:outParam TypeId) (k:outParam Nat):Prop where
 und:P.underlying t=some (.slice e)
 siz:(P.info? e).map (·.size)=some k
class oF (P:Program) (t:TypeId):Prop where
 und:P.underlying t=some .string
def HT (P:Program) (s:TypeId) (i:Nat) (off:Nat) (k:Nat) (agg:Bool):Bool :=
 match P.underlying s with
 | some (.struct fs)=>match fs[i]? with
  | some f=>f.offset==off&&(match P.info? f.type with | some x=>x.size==k | none=>false)&&k != 0&&((P.underlying f.type).map xe==some agg)
  | none=>false
 | _=>false
class dh (P:Program) (s:TypeId) (i:Nat) (off:outParam Nat) (k:outParam Nat) (agg:outParam Bool):Prop where
 is:HT P s i off k agg=true
section
variable {P:Program} {w:World}
theorem Cj {t:TypeId} {agg:Bool} {k:Nat} [h:Ty P t agg k]:(isAgg t).run P w=.ok agg w:=by
 obtain ⟨hu,_⟩:=h
 cases hd:P.underlying t with
 | none=>simp [hd] at hu
 | some d =>
  rw [hd] at hu;unfold isAgg;rw [Sem.run_bind,run_underlying hd w]
  cases d <;> simp_all [xe]
theorem gY {t:TypeId} {k:Nat} (h:(P.info? t).map (·.size)=some k):(sizeOf t).run P w=.ok k w:=by
 cases hq:P.info? t with
 | none=>simp [hq] at h
 | some i=>simp [hq] at h;simp [sizeOf,typeInfo,hq,h]
theorem oH (b o n:Nat):(⟨b,o,none⟩:Addr).add n=⟨b,o+n,none⟩:=by
 unfold Addr.add;split
 ·rename_i h;subst h;rfl
 ·rfl
theorem Ei {t:TypeId} [h:Ty P t false 1] {a:Addr} {v:Value} (hv:w.cell? a=some v):(loadVar t a).run P w=.ok v w:=by
 unfold loadVar;rw [Sem.run_bind,Cj (agg:=false) (k:=1)];simp [hv]
theorem mI {t:TypeId} {k:Nat} [h:Ty P t true k] {b o:Nat} {vs:List Value} (hl:vs.length=k) (hv:∀ j v,vs[j]?=some v->w.cell? ⟨b,o+j,none⟩=some v) :
  (loadVar t ⟨b,o,none⟩).run P w=.ok (.agg vs.toArray) w:=by
 unfold loadVar;rw [Sem.run_bind,Cj (agg:=true) (k:=k)]
 have hc:(loadCells ⟨b,o,none⟩ k).run P w=.ok vs.toArray w:=by
  rw [<-hl]
  exact run_loadCells_list w _ vs fun j v hj=>by rw [oH];exact hv j v hj
 simp [gY h.siz,hc]
end
def dZ (P:Program) (l:List Value) (w:World) (op:Op) (v:Value):Prop :=
 ∀ (d:Option Tmp) (ty:TypeId) (pos:String) (af:Array Edge),(execOp (ev l) ⟨d,op,ty,pos,af,none⟩).run P w=.ok (.value v) w
theorem WL.v {P:Program} {Q:kK} {l:List Value} {w:World} {ops:Array Oper} {rest:List Oper} {d:Option Tmp} {op:Op} {ty:TypeId} {pos:String} {af:Array Edge} {v:Value}
  (hr:dZ P l w op v) (h:WL P ops Q rest (put l d v) w):WL P ops Q (⟨d,op,ty,pos,af,none⟩::rest) l w:=WL.val (hr d ty pos af) h
section
variable {P:Program} {l:List Value} {w:World}
theorem R.mv {x:Operand}:dZ P l w (.move x) ((ev l x)):=fun d ty pos af=>by simp [execOp]
theorem R.sO {x:Operand}:dZ P l w (.assign x) ((ev l x)):=fun d ty pos af=>by simp [execOp]
theorem R.pick {c a b:Operand} {t:Bool} (hc:ev l c=.bool t):dZ P l w (.pick c a b) ((if t then ev l a else ev l b)):=fun d ty pos af=>by simp [execOp,hc,asBool]
theorem R.IB {x:Operand} {a:Addr} (hx:ev l x=.pointer (some a)):dZ P l w (.nilCheck x) ((.pointer (some a))):=fun d ty pos af=>by simp [execOp,hx]
theorem R.extract {x:Operand} {i:Nat} {vs:Array Value} {v:Value} (hx:ev l x=.tuple vs) (hv:vs[i]?=some v):dZ P l w (.extract x i) (v):=fun d ty pos af=>by simp [execOp,hx,Instr.extract,hv]
theorem R.iL {fn:Fn} {first cap:Array Operand}:dZ P l w (.makeFunc fn first cap) ((.func fn (first.map (ev l)) (cap.map (ev l)))):=fun d ty pos af=>by simp [execOp,Instr.makeFunc]
abbrev ae:=List UInt8
def sv (s:ae):Value:=.string ⟨s.toArray⟩
theorem toList_mk (s:ae):(⟨s.toArray⟩:ByteArray).toList=s:=by
 simp [ByteArray.toList_eq]
theorem uR (s:ae):(⟨s.toArray⟩:ByteArray).size=s.length:=by
 simp [ByteArray.size]
theorem CN (b:ByteArray):Value.string b=sv b.data.toList:=by
 simp [sv]
theorem Jr (a b:ae):(⟨a.toArray⟩:ByteArray)++⟨b.toArray⟩=⟨(a++b).toArray⟩:=by
 apply ByteArray.ext;simp
theorem extract_mk (s:ae) (i j:Nat):(⟨s.toArray⟩:ByteArray).extract i j=⟨((s.take j).drop i).toArray⟩:=by
 apply ByteArray.ext;simp [ByteArray.data_extract,List.take_drop]
 by_cases h:i<=j
 ·rw [Nat.add_sub_cancel' h]
 ·rw [List.drop_eq_nil_of_le (by simp;omega),List.drop_eq_nil_of_le (by simp;omega)]
theorem YE (x c:UInt8):((x.toNat:Int)==(c.toNat:Int))=(x==c):=by
 rw [Bool.eq_iff_iff];simp only [beq_iff_eq];constructor
 ·intro h;exact UInt8.toNat_inj.1 (by omega)
 ·rintro rfl;rfl
abbrev ii (n:Int):Value:=.int .i64 n
theorem Bl {n:Int} (h1 : -9223372036854775808<=n) (h2:n<=9223372036854775807):IntKind.i64.wrap n=n:=IntWalk.i64_in _ ⟨h1,h2⟩
theorem R.pR {x:Operand} {t:TypeId} [hT:oF P t] {s:ae} (hx:ev l x=sv s):dZ P l w (.call ⟨.builtin .len,#[x],#[t]⟩) ((ii s.length)):=fun d ty pos af=>by simp [execOp,resolve,invoke,builtin,hx,sv,Builtin.len_,goInt,run_underlying hT.und,uR]
theorem R.Iu {x:Operand} {t e:TypeId} {k:Nat} [hT:ma P t e k] {a:Option Addr} {n c:Nat} (hx:ev l x=.slice a n c):dZ P l w (.call ⟨.builtin .len,#[x],#[t]⟩) ((ii n)):=fun d ty pos af=>by simp [execOp,resolve,invoke,builtin,hx,Builtin.len_,goInt,run_underlying hT.und]
theorem R.add {x y:Operand} {t t':TypeId} {a b:Int} (hx:ev l x=ii a) (hy:ev l y=ii b) (h1 : -9223372036854775808<=a+b) (h2:a+b<=9223372036854775807):dZ P l w (.binOp .add t x y t') ((ii (a+b))):=fun d ty pos af=>by simp [execOp,eqGuard,hx,hy,binOp,Op.intArith,Bl h1 h2]
theorem R.sub {x y:Operand} {t t':TypeId} {a b:Int} (hx:ev l x=ii a) (hy:ev l y=ii b) (h1 : -9223372036854775808<=a - b) (h2:a - b<=9223372036854775807):dZ P l w (.binOp .sub t x y t') ((ii (a - b))):=fun d ty pos af=>by simp [execOp,eqGuard,hx,hy,binOp,Op.intArith,Bl h1 h2]
theorem R.mul {x y:Operand} {t t':TypeId} {a b:Int} (hx:ev l x=ii a) (hy:ev l y=ii b) (h1 : -9223372036854775808<=a * b) (h2:a * b<=9223372036854775807):dZ P l w (.binOp .mul t x y t') ((ii (a * b))):=fun d ty pos af=>by simp [execOp,eqGuard,hx,hy,binOp,Op.intArith,Bl h1 h2]
theorem R.cat {x y:Operand} {t t':TypeId} {a b:ae} (hx:ev l x=sv a) (hy:ev l y=sv b) (h1:a.length+b.length<=9223372036854775807):dZ P l w (.binOp .add t x y t') ((sv (a++b))):=fun d ty pos af=>by
  have h2:¬ ((((⟨a.toArray⟩:ByteArray).size+(⟨b.toArray⟩:ByteArray).size:Nat):Int) > IntKind.i64.max):=by
   rw [uR,uR];simp [IntKind.max,IntKind.signed,IntKind.bits];omega
  simp only [execOp,eqGuard,hx,hy,binOp,sv,Op.stringOp,if_neg h2,Jr];simp
theorem R.eq {x y:Operand} {t t':TypeId} {k:IntKind} {a b:Int} (hx:ev l x=.int k a) (hy:ev l y=.int k b):dZ P l w (.binOp .eql t x y t') ((.bool (a==b))):=fun d ty pos af=>by simp [execOp,eqGuard,hx,hy,binOp,Op.intCmp]
theorem R.ne {x y:Operand} {t t':TypeId} {k:IntKind} {a b:Int} (hx:ev l x=.int k a) (hy:ev l y=.int k b):dZ P l w (.binOp .neq t x y t') ((.bool (a != b))):=fun d ty pos af=>by simp [execOp,eqGuard,hx,hy,binOp,Op.intCmp]
theorem R.lt {x y:Operand} {t t':TypeId} {k:IntKind} {a b:Int} (hx:ev l x=.int k a) (hy:ev l y=.int k b):dZ P l w (.binOp .lss t x y t') ((.bool (decide (a < b)))):=fun d ty pos af=>by simp [execOp,eqGuard,hx,hy,binOp,Op.intCmp]
theorem R.le {x y:Operand} {t t':TypeId} {k:IntKind} {a b:Int} (hx:ev l x=.int k a) (hy:ev l y=.int k b):dZ P l w (.binOp .leq t x y t') ((.bool (decide (a<=b)))):=fun d ty pos af=>by simp [execOp,eqGuard,hx,hy,binOp,Op.intCmp]
theorem R.WY {x y:Operand} {t t':TypeId} {k:IntKind} {a b:Int} (hx:ev l x=.int k a) (hy:ev l y=.int k b):dZ P l w (.binOp .gtr t x y t') ((.bool (decide (b < a)))):=fun d ty pos af=>by simp [execOp,eqGuard,hx,hy,binOp,Op.intCmp]
theorem R.ge {x y:Operand} {t t':TypeId} {k:IntKind} {a b:Int} (hx:ev l x=.int k a) (hy:ev l y=.int k b):dZ P l w (.binOp .geq t x y t') ((.bool (decide (b<=a)))):=fun d ty pos af=>by simp [execOp,eqGuard,hx,hy,binOp,Op.intCmp]
theorem R.uf {x y:Operand} {t t':TypeId} {a b:ae} (hx:ev l x=sv a) (hy:ev l y=sv b):dZ P l w (.binOp .eql t x y t') ((.bool (a==b))):=fun d ty pos af=>by simp only [execOp,eqGuard,hx,hy,binOp,sv,Op.stringOp,toList_mk];simp
theorem R.uG {x y:Operand} {t t':TypeId} {a b:ae} (hx:ev l x=sv a) (hy:ev l y=sv b):dZ P l w (.binOp .neq t x y t') ((.bool (!(a==b)))):=fun d ty pos af=>by simp only [execOp,eqGuard,hx,hy,binOp,sv,Op.stringOp,toList_mk];simp
theorem R.not {x:Operand} {t:TypeId} {b:Bool} (hx:ev l x=.bool b):dZ P l w (.unOp .not t x) ((.bool (!b))):=fun d ty pos af=>by simp [execOp,hx,Op.unary]
theorem R.pQ {x y:Operand} {t:TypeId} [hT:oF P t] {s:ae} {k:IntKind} {i:Nat} {c:UInt8} (hx:ev l x=sv s) (hy:ev l y=.int k i) (hc:s[i]?=some c):dZ P l w (.index t x y) ((.int .u8 c.toNat)):=fun d ty pos af=>by
  have hg:(⟨s.toArray⟩:ByteArray)[i]?=some c:=by
   obtain ⟨hi,hv⟩:=List.getElem?_eq_some_iff.1 hc
   have nN:i < (⟨s.toArray⟩:ByteArray).size:=by rw [uR];exact hi
   rw [getElem?_pos (⟨s.toArray⟩:ByteArray) i nN];simp only [ByteArray.getElem_eq_getElem_data];simpa using hv
  simp [execOp,Instr.index,hx,hy,asIntOf,run_underlying hT.und,sv,hg]
theorem R.NM {x:Operand} {t:TypeId} [hT:oF P t] {s:ae} {lo hi:Option Operand} {i j:Nat} (hx:ev l x=sv s)
  (gH:match lo with | some y=>∃ k,ev l y=.int k i | none=>i=0) (zC:match hi with | some y=>∃ k,ev l y=.int k j | none=>j=s.length)
  (h1:i<=j) (h2:j<=s.length):dZ P l w (.slice t x lo hi none) ((sv ((s.take j).drop i))):=fun d ty pos af=>by
  have b8:=uR s
  cases lo <;> cases hi <;> simp only at gH zC
  ·subst gH;subst zC;simp [execOp,Instr.sliceAt,Instr.slice,Instr.sliceBounds,hx,sv,run_underlying hT.und,b8,extract_mk]
  ·obtain ⟨k,hk⟩:=zC;subst gH;simp [execOp,Instr.sliceAt,Instr.slice,Instr.sliceBounds,Instr.sliceBound,asIntOf,hx,hk,sv,run_underlying hT.und,b8,extract_mk,h2]
  ·obtain ⟨k,hk⟩:=gH;subst zC;simp [execOp,Instr.sliceAt,Instr.slice,Instr.sliceBounds,Instr.sliceBound,asIntOf,hx,hk,sv,run_underlying hT.und,b8,extract_mk,h1]
  ·obtain ⟨k,hk⟩:=gH;obtain ⟨k',kP⟩:=zC;simp [execOp,Instr.sliceAt,Instr.slice,Instr.sliceBounds,Instr.sliceBound,asIntOf,hx,hk,kP,sv,run_underlying hT.und,b8,extract_mk,h1,h2]
theorem R.pP {x y:Operand} {t e:TypeId} {k:Nat} [hT:ma P t e k] {b o n c:Nat} {kk:IntKind} {i:Nat} (hx:ev l x=.slice (some ⟨b,o,none⟩) n c) (hy:ev l y=.int kk i) (hi:i < n):dZ P l w (.indexAddr t x y) ((.pointer (some ⟨b,o+i * k,none⟩))):=fun d ty pos af=>by
  simp [execOp,Instr.indexAt,hx,hy,asIntOf,run_underlying hT.und,hi,gY hT.siz,oH]
theorem R.MH {x:Operand} {s:TypeId} {i off k:Nat} {agg:Bool} [hT:dh P s i off k agg] {b o:Nat} (hx:ev l x=.pointer (some ⟨b,o,none⟩)):dZ P l w (.fieldAddr s x i) ((.pointer (some ⟨b,o+off,none⟩))):=fun d ty pos af=>by
  obtain ⟨hT⟩:=hT;unfold HT at hT;split at hT
  ·rename_i fs hu;split at hT
   ·rename_i f hf;simp only [Bool.and_eq_true,beq_iff_eq,bne_iff_ne,ne_eq] at hT;obtain ⟨⟨⟨h1,h2⟩,h3⟩,h4⟩:=hT;split at h2
    ·rename_i x hq
     have hs:(P.info? f.type).map (·.size)=some k:=by rw [hq];simpa using h2
     simp [execOp,Instr.fieldAt,hx,run_underlying hu,hf,Instr.sureAddr,fieldPlace,gY hs,h3,oH,h1]
    ·cases h2
   ·cases hT
  ·cases hT
theorem R.Yj {x:Operand} {t:TypeId} [hT:Ty P t false 1] {a:Addr} {v:Value} (hx:ev l x=.pointer (some a)) (hv:w.cell? a=some v):dZ P l w (.load t x) (v):=fun d ty pos af=>by simp [execOp,Instr.loadAt,hx,Instr.sureAddr,Ei hv]
theorem R.Yk {x:Operand} {t:TypeId} {k:Nat} [hT:Ty P t true k] {b o:Nat} {vs:List Value} (hx:ev l x=.pointer (some ⟨b,o,none⟩)) (hl:vs.length=k)
  (hv:∀ j v,vs[j]?=some v->w.cell? ⟨b,o+j,none⟩=some v):dZ P l w (.load t x) ((.agg vs.toArray)):=fun d ty pos af=>by simp [execOp,Instr.loadAt,hx,Instr.sureAddr,mI hl hv]
end
def fp (H:Array Obj) (b o:Nat):Option Value :=
 match H[b]? with
 | some (.cells c _ _)=>c[o]?
 | _=>none
theorem eN (w:World) (b o:Nat):w.cell? ⟨b,o,none⟩=fp w.heap b o:=by
 unfold World.cell? fp
 cases w.heap[b]? with
 | none=>rfl
 | some x=>cases x <;> rfl
theorem C3 {H:Array Obj} {b o:Nat} {v:Value} (h:fp H b o=some v):b < H.size:=by
 unfold fp at h
 cases hb:H[b]? with
 | none=>rw [hb] at h;cases h
 | some x=>exact (Array.getElem?_eq_some_iff.1 hb).1
theorem Ext.c {S:Nat->Prop} {w w':World} (hx:Ext S w w') {b o:Nat} {v:Value} (h:fp w.heap b o=some v) (hs:¬ S b):fp w'.heap b o=some v:=by
 unfold fp at *;rw [hx.block b (C3 (H:=w.heap) (by unfold fp;exact h)) hs];exact h
theorem u9 {H:Array Obj} {b o:Nat} {cs:Array Value} {E:TypeId} {fz:Nat × Nat} {v:Value} (hb:H[b]?=some (.cells cs E fz)) (hv:cs[o]?=some v):fp H b o=some v:=by
 unfold fp;rw [hb];exact hv
theorem Ext.drew {S:Nat->Prop} (w:World):Ext S w w.drew:=⟨rfl,rfl,rfl,Nat.le_refl _,fun _ _ _=>rfl⟩
theorem R.ld {P:Program} {l:List Value} {w:World} {x:Operand} {t:TypeId} [hT:Ty P t false 1] {b o:Nat} {v:Value} (hx:ev l x=.pointer (some ⟨b,o,none⟩)) (hv:fp w.heap b o=some v):dZ P l w (.load t x) v:=R.Yj hx (by rw [eN];exact hv)
theorem R.Vf {P:Program} {l:List Value} {w:World} {x:Operand} {t:TypeId} {k:Nat} [hT:Ty P t true k] {b o:Nat} {vs:List Value} (hx:ev l x=.pointer (some ⟨b,o,none⟩)) (hl:vs.length=k)
  (hv:∀ j v,vs[j]?=some v->fp w.heap b (o+j)=some v):dZ P l w (.load t x) (.agg vs.toArray):=R.Yk hx hl (fun j v h=>by rw [eN];exact hv j v h)
section
variable {H:Array Obj} {b o:Nat} {v0 v1 v2 v3 v4 v5:Value}
end
end Go.Xw
namespace Go.Xw
open Go.RowKit
class qt (P:Program) (t:TypeId) (z:outParam Value):Prop where
 is:(P.info? t).bind (·.zero)=some z
structure sM (w w':World) (b:Nat) (cs:Array Value) (E:TypeId):Prop where
 blk:w'.heap[b]?=some (.cells cs E (0,0))
 ext:Ext (·=b) w w'
 size:w'.heap.size=w.heap.size
def tO (cs:Array Value) (o:Nat):List Value->Array Value
 | []=>cs
 | v::r=>tO (cs.setIfInBounds o v) (o+1) r
def kR (vs:List Value):Bool:=vs.all (·.oneCell')
section
variable {P:Program} {w:World}
theorem yY {t:TypeId} {z:Value} [h:qt P t z]:(zeroValue t).run P w=.ok z w:=by
 obtain ⟨h⟩:=h
 cases hq:P.info? t with
 | none=>simp [hq] at h
 | some i=>simp [hq] at h;simp [zeroValue,typeInfo,hq,h]
theorem sM.refl {b:Nat} {cs:Array Value} {E:TypeId} (hb:w.heap[b]?=some (.cells cs E (0,0))):sM w w b cs E:=⟨hb,Ext.refl _,rfl⟩
theorem sM.trans {w1 w2:World} {b:Nat} {cs xS:Array Value} {E:TypeId} (h:sM w w1 b cs E) (k:sM w1 w2 b xS E):sM w w2 b xS E :=
 ⟨k.blk,h.ext.trans k.ext,k.size.trans h.size⟩
theorem sM.setCell {b o:Nat} {cs:Array Value} {E:TypeId} (hb:w.heap[b]?=some (.cells cs E (0,0))) (v:Value) :
  sM w (w.setCell ⟨b,o,none⟩ v) b (cs.setIfInBounds o v) E :=
 ⟨heap_setCell_same w b o cs E v hb,⟨rfl,rfl,rfl,by simp,fun k _ hs=>heap_setCell_other w _ k v hs⟩,by simp⟩
theorem uQ {b o:Nat} {E:TypeId}:∀ (vs:List Value) (i:Nat) (w:World) (cs:Array Value),w.heap[b]?=some (.cells cs E (0,0))->o+i+vs.length<=cs.size->kR vs=true ->
  ∃ w',(storeCells ⟨b,o,none⟩ vs i).run P w=.ok () w'/\sM w w' b (tO cs (o+i) vs) E
 | [],i,w,cs,hb,_,_=>⟨w,by simp [storeCells],sM.refl hb⟩
 | v::r,i,w,cs,hb,hl,h1=>by
  simp only [kR,all_cons,Bool.and_eq_true] at h1;simp only [length_cons] at hl;have hs:=sM.setCell (w:=w) (o:=o+i) hb v;obtain ⟨w',hr,bE⟩:=uQ (b:=b) (o:=o) (E:=E) r (i+1) _ _ hs.blk (by simp;omega) h1.2;refine ⟨w',?_,hs.trans (by simpa [tO,Nat.add_assoc] using bE)⟩;have hc:w.cell? ⟨b,o+i,none⟩=cs[o+i]?:=cell_of_row w b (o+i) cs E (0,0) hb;have dj:∃ u,w.cell? ⟨b,o+i,none⟩=some u:=⟨cs[o+i]'(by omega),by rw [hc];simp⟩;obtain ⟨u,hu⟩:=dj;have hf:w.frozen? ⟨b,o+i,none⟩=false:=frozen_of_row w b _ cs E hb
  have We:(store ((⟨b,o,none⟩:Addr).add i) v).run P w=.ok () (w.setCell ⟨b,o+i,none⟩ v):=by
   rw [oH]
   cases v <;> first | (simp [Value.oneCell'] at h1;done) | simp [store,Sem.run,hu,hf]
  simp only [storeCells,Sem.run_bind,We,Result.andThen_ok,hr]
theorem Ej {t:TypeId} {agg:Bool} {k:Nat} [hT:Ty P t agg k] {b o:Nat} {E:TypeId} {cs:Array Value} {v:Value} (hb:w.heap[b]?=some (.cells cs E (0,0)))
  (hl:v.cells.size=k) (ho:o+k<=cs.size) (h1:kR v.cells.toList=true) :
  ∃ w',(storeVar t ⟨b,o,none⟩ v).run P w=.ok () w'/\sM w w' b (tO cs o v.cells.toList) E:=by
 obtain ⟨w',hr,hs⟩:=uQ (P:=P) (o:=o) v.cells.toList 0 w cs hb (by simp;omega) h1;refine ⟨w',?_,by simpa using hs⟩;simp [storeVar,gY hT.siz,hl,hr]
end
def gi:List Value->Nat->List Value->List Value
 | cs,_,[]=>cs
 | cs,o,v::r=>gi (eF cs o v) (o+1) r
def oL (pl:Nat->Option (Nat × Nat)):List Value->List (Nat × Value)->Option (List Value)
 | cs,[]=>some cs
 | cs,(i,v)::r=>match pl i with
  | none=>none
  | some (o,k)=>if v.cells.size≠k || decide (o+v.cells.size > cs.length) then none else oL pl (gi cs o v.cells.toList) r
theorem y5:∀ (vs:List Value) (cs:List Value) (o:Nat),(gi cs o vs).length=cs.length
 | [],_,_=>rfl
 | v::r,cs,o=>by
  rw [gi,y5 r];have:=congrArg Array.size (xb cs o v);simpa using this.symm
theorem zo:∀ (vs:List Value) (cs:List Value) (o n:Nat),
  (vs.zipIdx n).foldl (fun (cs:Array Value) (x:Value × Nat)=>cs.setIfInBounds (o+x.2) x.1) cs.toArray=(gi cs (o+n) vs).toArray
 | [],cs,o,n=>by simp [gi]
 | v::r,cs,o,n=>by
  simp only [List.zipIdx_cons,List.foldl_cons,xb,gi];rw [zo r];rfl
theorem wg (pl:Nat->Option (Nat × Nat)):∀ (parts:List (Nat × Value)) (cs:List Value),
  Instr.fill pl cs.toArray parts=(oL pl cs parts).map List.toArray
 | [],cs=>by simp [Instr.fill,oL]
 | (i,v)::r,cs=>by
  simp only [Instr.fill,oL]
  cases hp:pl i with
  | none=>rfl
  | some x =>
   obtain ⟨o,k⟩:=x;simp only [size_toArray];split
   ·rfl
   ·have h:(v.cells.zipIdx.foldl (fun (cs:Array Value) (x:Value × Nat)=>cs.setIfInBounds (o+x.2) x.1) cs.toArray)=(gi cs o v.cells.toList).toArray:=by
     have:=zo v.cells.toList cs o 0;rw [<-Array.foldl_toList,Array.toList_zipIdx];exact this
    have h2:=wg pl r (gi cs o v.cells.toList);rw [<-h2,<-h]
def O4 (P:Program) (t:TypeId) (pl:List (Nat × Nat)):Bool :=
 match P.underlying t with
 | some (.struct fs)=>(fs.toList.map fun f=>(f.offset,(P.info? f.type).map (·.size)))==pl.map fun x=>(x.1,some x.2)
 | _=>false
class sL (P:Program) (t:TypeId) (pl:outParam (List (Nat × Nat))) (z:outParam (List Value)):Prop where
 is:O4 P t pl=true
 zero:(P.info? t).bind (·.zero)=some (.agg z.toArray)
section
variable {P:Program} {w:World}
theorem Ac {fs:List Field}:∀ {pl:List (Nat × Nat)},(fs.map fun f=>(f.offset,(P.info? f.type).map (·.size)))=(pl.map fun x=>(x.1,some x.2)) ->
  (List.mapM (m:=Sem) (fun (f:Field)=>Functor.map (Prod.mk f.offset) (sizeOf f.type)) fs).run P w=.ok pl w:=by
 induction fs with
 | nil=>intro pl h;cases pl with | nil=>simp | cons=>simp at h
 | cons f fs ih =>
  intro pl h
  cases pl with
  | nil=>simp at h
  | cons x pl =>
   simp only [List.map_cons,List.cons.injEq,Prod.mk.injEq] at h;obtain ⟨⟨h1,h2⟩,h3⟩:=h;have:=ih h3;have h5:=gY (w:=w) h2;simp [List.mapM_cons,Sem.run_bind,h5,this,h1]
theorem run_build {t:TypeId} {pl:List (Nat × Nat)} {z:List Value} [hT:sL P t pl z] {parts:List (Nat × Value)} {cs:List Value} (hf:oL (fun i=>pl[i]?) z parts=some cs) :
  (Instr.build t parts.toArray).run P w=.ok (.agg cs.toArray) w:=by
 obtain ⟨hi,hz⟩:=hT
 have DK:(zeroValue t).run P w=.ok (.agg z.toArray) w:=by
  haveI:qt P t (.agg z.toArray):=⟨hz⟩
  exact yY
 unfold O4 at hi;split at hi
 ·rename_i fs hu;have hm:=Ac (P:=P) (w:=w) (eq_of_beq hi)
  have jS:(Array.mapM (m:=Sem) (fun (f:Field)=>Functor.map (Prod.mk f.offset) (sizeOf f.type)) fs).run P w=.ok pl.toArray w:=by
   rw [Array.mapM_eq_mapM_toList];simp [hm]
  have iP:=wg (fun i=>pl[i]?) parts z;rw [hf] at iP;simp [Instr.build,Sem.run_bind,DK,run_underlying hu,jS,Value.cells];simp [iP]
 ·cases hi
end
section
variable {P:Program} {Q:kK} {l:List Value} {w:World} {ops:Array Oper} {rest:List Oper} {d:Option Tmp} {ty:TypeId} {pos:String} {af:Array Edge}
theorem Ad (t:TypeId) (v:Value):(newVar t v).run P w=.ok ⟨w.heap.size,0,none⟩ (w.alloc (.cells v.cells t)):=by
 rfl
theorem WL.alloc {t:TypeId} {z:Value} [hT:qt P t z] (h:∀ b w',tU w w' b (.cells z.cells t)->WL P ops Q rest (put l d (.pointer (some ⟨b,0,none⟩))) w') :
  WL P ops Q (⟨d,.alloc t,ty,pos,af,none⟩::rest) l w :=
 WL.val (w':=w.alloc (.cells z.cells t)) (by simp [execOp,Instr.alloc,yY (w:=w) (z:=z),Ad]) (h _ _ (tU.of w _))
theorem WL.box {t:TypeId} {x:Operand} {v:Value} (hx:ev l x=v) (h:∀ b w',tU w w' b (.cells v.cells t)->WL P ops Q rest (put l d (.pointer (some ⟨b,0,none⟩))) w') :
  WL P ops Q (⟨d,.box t x,ty,pos,af,none⟩::rest) l w :=
 WL.val (w':=w.alloc (.cells v.cells t)) (by simp [execOp,Instr.box,Ad,hx]) (h _ _ (tU.of w _))
theorem R.build {t:TypeId} {pl:List (Nat × Nat)} {z:List Value} [hT:sL P t pl z] {parts:List (Nat × Operand)} {cs:List Value}
  (hf:oL (fun i=>pl[i]?) z (parts.map fun x=>(x.1,ev l x.2))=some cs):dZ P l w (.build t parts.toArray) (.agg cs.toArray):=fun d ty pos af=>by
  have hr:=run_build (P:=P) (w:=w) (t:=t) hf;simp only [execOp,map_toArray];simp [hr]
class oE (P:Program) (t:TypeId) (e:outParam TypeId) (k:outParam Nat) (z:outParam (List Value)):Prop where
 und:P.underlying t=some (.slice e)
 siz:(P.info? e).map (·.size)=some k
 zero:(P.info? e).bind (·.zero)=some (if k=1 then z.headD undef else .agg z.toArray)
 zl:z.length=k
 pos:0 < k
 one:k=1->(z.headD undef).cells=#[z.headD undef]
theorem oE.cells {t e:TypeId} {k:Nat} {z:List Value} (h:oE P t e k z):(if k=1 then z.headD undef else .agg z.toArray).cells=z.toArray:=by
 split
 ·rename_i hk;rw [h.one hk];have:=h.zl;rw [hk] at this
  match z,this with
  | [a],_=>rfl
 ·rfl
theorem WL.A4 {t e:TypeId} {k:Nat} {z:List Value} [hT:oE P t e k z] {n:Nat} {parts:List (Nat × Operand)} {cs:List Value} (hn:n * k<=16777216)
  (hf:oL (fun i=>some (i * k,k)) ((List.range (n * k)).map fun j=>z.getD (j % k) undef) (parts.map fun x=>(x.1,ev l x.2))=some cs)
  (h:∀ b w',tU w w' b (.cells cs.toArray e)->WL P ops Q rest (put l d (.slice (some ⟨b,0,none⟩) n n)) w') :
  WL P ops Q (⟨d,.buildSlice t n parts.toArray,ty,pos,af,none⟩::rest) l w :=
 WL.val (w':=w.alloc (.cells cs.toArray e)) (by
  have hz:(zeroValue e).run P w=.ok (if k=1 then z.headD undef else .agg z.toArray) w:=by
   haveI:qt P e (if k=1 then z.headD undef else .agg z.toArray):=⟨hT.zero⟩
   exact yY
  have hc:=hT.cells;generalize (if k=1 then z.headD undef else .agg z.toArray:Value)=zv at hz hc;have iP:=wg (fun i=>some (i * k,k)) (parts.map fun x=>(x.1,ev l x.2)) ((List.range (n * k)).map fun j=>z.getD (j % k) undef);rw [hf] at iP
  have zG:¬ (16777216 < n * k):=by omega
  by_cases h0:n * k=0
  ·have WZ:n=0:=by
    rcases Nat.mul_eq_zero.1 h0 with h | h
    ·exact h
    ·have:=hT.pos;omega
   subst WZ;simp only [Nat.zero_mul,List.range_zero,map_nil] at iP;simp only [execOp,map_toArray];have qB:(Array.range 0)=#[]:=rfl;simp [Instr.buildSlice,run_underlying hT.und,gY hT.siz,qB,iP];rfl
  ·have he:(Array.range (n * k)).map (fun j=>z.toArray[j % z.toArray.size]!)=((List.range (n * k)).map fun j=>z.getD (j % k) undef).toArray:=by
    apply Array.ext';simp only [Array.toList_map,Array.toList_range];apply List.map_congr_left;intro j _;have hk:=hT.pos
    have aq:j % k < z.length:=by rw [hT.zl];exact Nat.mod_lt _ hk
    rw [List.getD_eq_getElem?_getD,List.getElem?_eq_getElem aq];simp [hT.zl];rw [List.getElem?_eq_getElem aq];rfl
   rw [<-he] at iP;simp only [execOp,map_toArray];simp [Instr.buildSlice,run_underlying hT.und,gY hT.siz,zG,h0,hz,hc];simp only [size_toArray] at iP;simp at iP;simp [iP]
   rfl) (h _ _ (tU.of w _))
theorem WL.st {x y:Operand} {t:TypeId} {agg:Bool} {k:Nat} [hT:Ty P t agg k] {b o:Nat} {E:TypeId} {cs:Array Value} {v:Value} (hx:ev l x=.pointer (some ⟨b,o,none⟩)) (hy:ev l y=v)
  (hb:w.heap[b]?=some (.cells cs E (0,0))) (hl:v.cells.size=k) (ho:o+k<=cs.size) (h1:kR v.cells.toList=true)
  (h:∀ w',sM w w' b (tO cs o v.cells.toList) E->WL P ops Q rest (put l d undef) w'):WL P ops Q (⟨d,.store t x y,ty,pos,af,none⟩::rest) l w:=by
 obtain ⟨w',hr,hs⟩:=Ej (P:=P) (t:=t) hb hl ho h1;exact WL.Yp (w':=w') (by simp [execOp,Instr.storeAt,hx,hy,Instr.sureAddr,hr]) (h w' hs)
end
def C6 (P:Program) (f:FuncId):Bool :=
 match P.funcs[f]? with
 | some fn=>fn.name != "runtime.NumGoroutine" && fn.body.isSome
 | none=>false
class aB (P:Program) (f:FuncId):Prop where
 ok:C6 P f=true
def nG (P:Program) (f:FuncId) (args:List Value) (w:World) (R:Value->World->Prop):Prop :=
 Calls P f args.toArray w fun e w'=>∃ v,e=.returned v/\R v w'
theorem nG.mono {P:Program} {f:FuncId} {args:List Value} {w:World} {R R':Value->World->Prop} (h:nG P f args w R) (hr:∀ v w',R v w'->R' v w'):nG P f args w R' :=
 Calls.mono h fun _ _ ⟨v,he,r⟩=>⟨v,he,hr _ _ r⟩
theorem kV {P:Program} {w:World} {f:FuncId} [h:aB P f] (args:Array Value):(callFunc f args).run P w=.ok (.enter f args) w:=by
 obtain ⟨h⟩:=h;unfold C6 at h;split at h
 ·rename_i fn hf;simp only [Bool.and_eq_true,bne_iff_ne,ne_eq] at h
  have h2:fn.body.isNone=false:=by cases hb:fn.body <;> simp_all
  simp [callFunc,program,Sem.run,hf,h.1,h2];intro hn;simp [hn] at h2
 ·cases h
section
variable {P:Program} {Q:kK} {l:List Value} {w:World} {ops:Array Oper} {rest:List Oper} {d:Option Tmp} {ty:TypeId} {pos:String} {af:Array Edge}
theorem WL.calls {op:Op} {f:FuncId} {Au:List Value} (hr:(execOp (ev l) ⟨d,op,ty,pos,af,none⟩).run P w=.ok (.enter f Au.toArray) w) {R:Value->World->Prop}
  (hc:nG P f Au w R) (h:∀ v w',R v w'->WL P ops Q rest (put l d v) w'):WL P ops Q (⟨d,op,ty,pos,af,none⟩::rest) l w:=by
 refine wpList_plain rfl fun K hK=>?_
 simp only [Oper.wp,mq,hr,Oper.upon_enter];refine Calls.mono hc ?_;rintro e w' ⟨v,rfl,hv⟩;simp only [oe];exact hK _ _ (h v w' hv)
theorem WL.call {f:FuncId} [hf:aB P f] {args:List Operand} {lR:Array TypeId} {Au:List Value} (ha:args.map (ev l)=Au) {R:Value->World->Prop}
  (hc:nG P f Au w R) (h:∀ v w',R v w'->WL P ops Q rest (put l d v) w'):WL P ops Q (⟨d,.call ⟨.value (.func f),args.toArray,lR⟩,ty,pos,af,none⟩::rest) l w :=
 WL.calls (by simp [execOp,resolve,ev,Deferred.ofValue,invoke,kV,ha]) hc h
end
def Ed:Nat->List Value
 | 0=>[]
 | n+1=>undef::Ed n
def frame:List Value->Nat->List Value
 | [],n=>Ed n
 | a::r,n=>a::frame r (n - 1)
theorem SJ (n:Nat):Ed n=List.replicate n undef:=by
 induction n with
 | zero=>rfl
 | succ n ih=>rw [Ed,ih];rfl
theorem MJ (args:List Value) (n:Nat):frame args n=args++List.replicate (n - args.length) undef:=by
 induction args generalizing n with
 | nil=>simp [frame,SJ]
 | cons a r ih=>rw [frame,ih];simp [Nat.sub_sub,Nat.add_comm]
def Ok (P:Program) (fn:Func) (R:Value->World->Prop):kK
 | .normal,l,w | .ret,l,w=>∃ v,(results fn l.toArray).run P w=.ok v w/\R v w
 | _,_,_=>False
theorem nG.enter {P:Program} {f:FuncId} {fn:Func} {c:Code} {args:List Value} {w:World} {R:Value->World->Prop} {n:Nat} {l:List Value}
  (hf:P.funcs[f]?=some fn) (hn:fn.ntmps=n) (hb:fn.body=some c) (hl:frame args n=l) (h:W P c (Ok P fn R) l w):nG P f args w R:=by
 subst hl;refine calls_of_wp hf hb ?_
 have sW:(args.toArray++Array.replicate (fn.ntmps - args.toArray.size) undef)=(frame args n).toArray:=by
  simp [MJ,hn]
 rw [sW];refine wp_mono h ?_;rintro e a w ⟨l,rfl,hq⟩
 cases e <;> simp only [Ok] at hq <;> simp only [bodyPost]
 ·obtain ⟨v,hr,hv⟩:=hq;exact ⟨rfl,v,hr,v,rfl,hv⟩
 ·obtain ⟨v,hr,hv⟩:=hq;exact ⟨rfl,v,hr,v,rfl,hv⟩
end Go.Xw
namespace Go.Xw
open Go.RowKit
def QM (P:Program) (t e k gx:Nat):Bool :=
 (match P.underlying t with | some (.slice e')=>e'==e | _=>false) &&
 (match P.info? e with
  | some i=>(match i.zero with | some z=>z.cells.size==k | none=>false)&&i.size==k&&i.bytes==gx
  | none=>false)&&k != 0
class nC (P:Program) (t:TypeId) (e:outParam TypeId) (k:outParam Nat) (gx:outParam Nat):Prop where
 is:QM P t e k gx=true
theorem nC.parts {P:Program} {t e k gx:Nat} (h:nC P t e k gx) :
  P.underlying t=some (.slice e)/\(∃ i z,P.info? e=some i/\i.zero=some z/\z.cells.size=k/\i.size=k/\i.bytes=gx)/\0 < k:=by
 obtain ⟨h⟩:=h;simp only [QM,Bool.and_eq_true,bne_iff_ne,ne_eq] at h;obtain ⟨⟨h1,h2⟩,h3⟩:=h;refine ⟨?_,?_,by omega⟩
 ·split at h1
  ·rename_i e' hu;rw [hu];simp at h1;rw [h1]
  ·cases h1
 ·split at h2
  ·rename_i i hi;simp only [Bool.and_eq_true,beq_iff_eq] at h2;obtain ⟨⟨h4,h5⟩,h6⟩:=h2;split at h4
   ·rename_i z hz;exact ⟨i,z,hi,hz,by simpa using h4,h5,h6⟩
   ·cases h4
  ·cases h2
abbrev gw (w:World) (base:Nat) (e k:Nat) (v:Value) (n:Nat) (xs:List Value):Prop:=w.ownsRow base e k v n xs
theorem gw.nil (w:World) (base e k:Nat):gw w base e k (.slice none 0 0) 0 []:=World.ownsRow_nil w base e k
theorem gw.ext {S:Nat->Prop} {w w':World} {base e k:Nat} {v:Value} {n:Nat} {xs:List Value} (h:gw w base e k v n xs) (hx:Ext S w w') (hs:∀ b,v.ownBlock=some b->¬ S b):gw w' base e k v n xs:=by
 obtain ⟨h1,h2⟩:=h;refine ⟨h1,?_⟩
 rcases h2 with h2 | ⟨g,cap,cur,rfl,hb,hg,r⟩
 ·exact .inl h2
 ·exact .inr ⟨g,cap,cur,rfl,hb,hx.blk hg (hs g rfl),r⟩
theorem gw.lt {w:World} {base e k:Nat} {v:Value} {n:Nat} {xs:List Value} (h:gw w base e k v n xs) {b:Nat} (hv:v.ownBlock=some b):base<=b/\b < w.heap.size:=by
 obtain ⟨h1,h2⟩:=h
 rcases h2 with ⟨rfl,_⟩ | ⟨g,cap,cur,rfl,hb,hg,r⟩
 ·cases hv
 ·simp only [Value.ownBlock,Option.some.injEq] at hv;subst hv;exact ⟨hb,qE hg⟩
theorem gw.shape {w:World} {base e k:Nat} {v:Value} {n:Nat} {xs:List Value} (h:gw w base e k v n xs):∃ a c,v=.slice a n c:=by
 obtain ⟨h1,h2⟩:=h
 rcases h2 with ⟨rfl,rfl⟩ | ⟨g,cap,cur,rfl,_⟩
 ·exact ⟨_,_,rfl⟩
 ·exact ⟨_,_,rfl⟩
theorem gw.base {w:World} {base Oj e k:Nat} {v:Value} {n:Nat} {xs:List Value} (h:gw w base e k v n xs) (hb:Oj<=base):gw w Oj e k v n xs:=by
 obtain ⟨h1,h2⟩:=h;refine ⟨h1,?_⟩
 rcases h2 with h2 | ⟨g,cap,cur,rfl,ba,r⟩
 ·exact .inl h2
 ·exact .inr ⟨g,cap,cur,rfl,Nat.le_trans hb ba,r⟩
theorem gw.cells {w:World} {base e k:Nat} {v:Value} {n:Nat} {xs:List Value} (h:gw w base e k v n xs) :
  xs.length=n * k/\(xs≠[]->∃ b c,v=.slice (some ⟨b,0,none⟩) n c/\base<=b/\b < w.heap.size/\∀ j u,xs[j]?=some u->w.cell? ⟨b,j,none⟩=some u):=by
 obtain ⟨h1,h2⟩:=h;refine ⟨h1,fun bO=>?_⟩
 rcases h2 with ⟨rfl,rfl⟩ | ⟨g,cap,cur,rfl,hb,hg,hn,hm,b8,ht⟩
 ·simp at h1;exact absurd h1 bO
 ·refine ⟨g,cap,rfl,hb,qE hg,fun j u hj=>?_⟩;rw [cell_of_row w g j cur e (0,0) hg];rw [<-ht] at hj;rw [getElem?_take] at hj;split at hj
  ·simpa using hj
  ·cases hj
theorem gw.Sw {w w':World} {b e k n:Nat} {cs:List Value} (h:tU w w' b (.cells cs.toArray e)) (hl:cs.length=n * k) (hm:n<=maxLen):gw w' w.heap.size e k (.slice (some ⟨b,0,none⟩) n n) n cs :=
 ⟨hl,.inr ⟨b,n,cs.toArray,rfl,by rw [h.fresh];exact Nat.le_refl _,h.blk,Nat.le_refl _,hm,by simpa using hl,by simp [<-hl]⟩⟩
section
variable {P:Program} {Q:kK} {l:List Value} {w:World} {ops:Array Oper} {rest:List Oper} {d:Option Tmp} {ty:TypeId} {pos:String} {af:Array Edge}
theorem WL.app {s x:Operand} {t e k gx:Nat} [hT:nC P t e k gx] {base n m c b o:Nat} {xs news:List Value} {v:Value} (hs:ev l s=v) (fT:gw w base e k v n xs)
  (hx:ev l x=.slice (some ⟨b,o,none⟩) m c) (hl:news.length=m * k) (OH:∀ j u,news[j]?=some u->w.cell? ⟨b,o+j,none⟩=some u) (h1:kR news=true)
  (Re:n+m<=9223372036854775807) (wy:(n+m) * gx<=140737488355328) (zz:base<=w.heap.size)
  (h:∀ v' w',gw w' base e k v' (n+m) (xs++news)->Ext (fun b=>v.ownBlock=some b) w w'->(∀ b,v'.ownBlock=some b->v.ownBlock=some b\/w.heap.size<=b)->(Ext gX w w'\/v'.ownBlock=v.ownBlock)->WL P ops Q rest (put l d v') w') :
  WL P ops Q (⟨d,.call ⟨.builtin .append,#[s,x],#[t,t]⟩,ty,pos,af,none⟩::rest) l w:=by
 obtain ⟨hu,⟨i,z,hi,hz,KD,b8,wx⟩,hk⟩:=hT.parts;obtain ⟨v',w',hr,h2,h3,h4⟩:=run_append_own (P:=P) w base t ty e i z k gx hu hi hz b8 wx KD hk v n xs fT ⟨b,o,none⟩ m c news hl
  (fun j u hj=>by rw [oH];exact OH j u hj) (by simpa [kR] using h1) (by simpa [maxLen] using Re) wy zz
 have fZ:Ext (fun b=>v.ownBlock=some b) w w':=⟨h3.os,h3.tape,h3.output,h3.size,fun j hj hn=>h3.block j hj fun he=>hn he.symm⟩
 have wE:∀ j u,news[j]?=some u->w.cell? ((⟨b,o,none⟩:Addr).add j)=some u:=fun j u hj=>by rw [oH];exact OH j u hj
 have iG:news.length=m * i.size:=by rw [b8];exact hl
 have MQ:(n+m) * i.bytes<=140737488355328:=by rw [wx];exact wy
 refine WL.val (v:=v') (w':=w') (by simp [execOp,resolve,invoke,builtin,hs,hx,hr]) (h v' w' h2 fZ ?_ ?_)
 ·intro b' ba;have zJ:=fT.2
  rcases zJ with ⟨rfl,rfl⟩ | ⟨g,cap,cur,rfl,nM,hg,px,xZ,fq,zL⟩
  ·by_cases hm:m=0
   ·have:=h4.2 ⟨rfl,hm⟩;subst this;cases ba
   ·have dd:=run_append_nil (P:=P) w t ty e i z hu hi hz ⟨b,o,none⟩ m c news iG wE (by omega) (by omega) (by simp only [Nat.zero_add] at MQ;omega);rw [hr] at dd;cases dd;simp only [Value.ownBlock,Option.some.injEq] at ba;exact .inr (by omega)
  ·by_cases hroom:n+m<=cap
   ·have dd:=run_append_room (P:=P) w t ty e i hu hi g n cap cur hg ⟨b,o,none⟩ m c news iG wE (by simpa [kR] using h1) hroom
     (by rw [iG,fq,<-Nat.add_mul,b8];exact Nat.mul_le_mul_right _ hroom)
    rw [hr] at dd;cases dd;exact .inl ba
   ·have holds:∀ j u,xs[j]?=some u->w.cell? ((⟨g,0,none⟩:Addr).add j)=some u:=World.ownsRow.cells (g:=g) fT rfl;have dd:=run_append_grow (P:=P) w t ty e i z hu hi hz ⟨g,0,none⟩ n cap xs (by rw [b8];exact fT.1) holds ⟨b,o,none⟩ m c news iG wE (by omega) (by omega) (growslice_fits (by omega) MQ);rw [hr] at dd;cases dd;simp only [Value.ownBlock,Option.some.injEq] at ba;exact .inr (by omega)
 ·have zJ:=fT.2
  rcases zJ with ⟨rfl,rfl⟩ | ⟨g,cap,cur,rfl,nM,hg,px,xZ,fq,zL⟩
  ·exact .inl (fZ.mono fun k _ hk=>by cases hk)
  ·by_cases hroom:n+m<=cap
   ·have dd:=run_append_room (P:=P) w t ty e i hu hi g n cap cur hg ⟨b,o,none⟩ m c news iG wE (by simpa [kR] using h1) hroom
     (by rw [iG,fq,<-Nat.add_mul,b8];exact Nat.mul_le_mul_right _ hroom)
    rw [hr] at dd;cases dd;exact .inr rfl
   ·have holds:∀ j u,xs[j]?=some u->w.cell? ((⟨g,0,none⟩:Addr).add j)=some u:=World.ownsRow.cells (g:=g) fT rfl;have dd:=run_append_grow (P:=P) w t ty e i z hu hi hz ⟨g,0,none⟩ n cap xs (by rw [b8];exact fT.1) holds ⟨b,o,none⟩ m c news iG wE (by omega) (by omega) (growslice_fits (by omega) MQ);rw [hr] at dd;cases dd;exact .inl ⟨rfl,rfl,rfl,by simp,fun k hk _=>Below.heap_alloc _ _ _ (by simpa using hk)⟩
theorem WL.push {x s:Operand} {t e k gx:Nat} {z:List Value} [hT:nC P t e k gx] [hZ:oE P t e k z] {base n:Nat} {xs vs:List Value} {v val:Value} {d1:Tmp} {LU:TypeId} {Ec:String} {Jm:Array Edge}
  (hx:ev l x=val) (hs:∀ u,ev (put l (some d1) u) s=v) (hd:∀ u,ev (put l (some d1) u) (.tmp d1)=u) (hc:val.cells=vs.toArray) (hk:vs.length=k) (h1:kR vs=true)
  (fT:gw w base e k v n xs) (Re:n+1<=9223372036854775807) (wy:(n+1) * gx<=140737488355328) (YL:k<=16777216) (zz:base<=w.heap.size)
  (h:∀ u v' w',gw w' base e k v' (n+1) (xs++vs)->Ext (fun b=>v.ownBlock=some b) w w'->(∀ b,v'.ownBlock=some b->v.ownBlock=some b\/w.heap.size<=b)->(Ext gX w w'\/v'.ownBlock=v.ownBlock)->WL P ops Q rest (put (put l (some d1) u) d v') w') :
  WL P ops Q (⟨some d1,.buildSlice t 1 #[(0,x)],LU,Ec,Jm,none⟩::⟨d,.call ⟨.builtin .append,#[s,.tmp d1],#[t,t]⟩,ty,pos,af,none⟩::rest) l w:=by
 have Zl:=hZ.pos
 have b8:val.cells.size=k:=by rw [hc];simpa using hk
 have cl:∀ (vs cs:List Value),vs.length=cs.length->gi cs 0 vs=vs:=by
  have gen:∀ (vs pre cs:List Value),vs.length=cs.length->gi (pre++cs) pre.length vs=pre++vs:=by
   intro vs
   induction vs with
   | nil=>intro pre cs hl;cases cs <;> simp_all [gi]
   | cons a r ih =>
    intro pre cs hl
    cases cs with
    | nil=>simp at hl
    | cons c cs =>
     have hu:eF (pre++c::cs) pre.length a=pre++a::cs:=by
      clear hl
      induction pre with
      | nil=>rfl
      | cons p pre ihp=>simp [eF,ihp]
     rw [gi,hu];have:=ih (pre++[a]) cs (by simpa using hl);simpa using this
  intro vs cs hl;exact gen vs [] cs hl
 have TD:oL (fun i=>some (i * k,k)) ((List.range (1 * k)).map fun j=>z.getD (j % k) undef) ([((0:Nat),x)].map fun y=>(y.1,ev l y.2))=some vs:=by
  simp only [List.map_cons,map_nil,oL,hx,b8];simp [hk,hc];exact cl vs _ (by simpa using hk)
 refine WL.A4 (n:=1) (parts:=[(0,x)]) (by omega) TD ?_;intro b2 w2 bI;have TI:gw w2 base e k v n xs:=fT.ext bI.ext (fun _ _ h=>h);refine WL.app (base:=base) (v:=v) (n:=n) (xs:=xs) (news:=vs) (m:=1) (hs _) TI (hd _) (by omega) (fun j u hj=>?_) h1 Re wy (Nat.le_trans zz bI.ext.size) ?_
 ·rw [Nat.zero_add];exact Js bI.blk (by simpa using hj)
 ·intro v' w3 ho KC hb uv;refine h _ v' w3 ho ((bI.ext.mono (fun _ _ h=>h.elim)).trans KC) (fun b ba=>?_) (uv.imp (fun h5=>bI.ext.trans h5) id)
  rcases hb b ba with h4 | h4
  ·exact .inl h4
  ·exact .inr (Nat.le_trans bI.ext.size h4)
end
end Go.Xw
namespace Go.Xw
open Go.RowKit
section
variable {P:Program} {ops:Array Oper} {S:Nat->Prop}
end
def qR:List Oper->Nat->Oper
 | [],_=>default
 | o::_,0=>o
 | _::r,n+1=>qR r n
theorem P6 (ol:List Oper) (i:Nat) (o:Oper) (h:ol.toArray[i]?=some o):qR ol i=o:=by
 have h':ol[i]?=some o:=by simpa using h
 clear h
 induction ol generalizing i with
 | nil=>simp at h'
 | cons x r ih =>
  cases i with
  | zero=>simpa [qR] using h'
  | succ i=>exact ih i (by simpa using h')
section
variable {P:Program} {ops:Array Oper} {S:Nat->Prop} {Q:kK} {l:List Value} {w:World} {r:List (Oper × Bool)} {d:Option Tmp} {op:Op} {ty:TypeId} {pos:String} {af:Array Edge}
end
end Go.Xw
namespace Go.Xw
open Go.RowKit
def IL:IntKind->IntKind->Bool
 | .i8,.i8 | .i16,.i16 | .i32,.i32 | .i64,.i64 | .u8,.u8 | .u16,.u16 | .u32,.u32 | .u64,.u64=>true
 | _,_=>false
theorem ND {a b:IntKind} (h:IL a b=true):a=b:=by cases a <;> cases b <;> first | rfl | cases h
def HZ (op:BinOp) (a b:Int):Option Value :=
 match op with
 | .eql=>some (.bool (a==b))
 | .neq=>some (.bool (a != b))
 | .lss=>some (.bool (decide (a < b)))
 | .leq=>some (.bool (decide (a<=b)))
 | .gtr=>some (.bool (decide (b < a)))
 | .geq=>some (.bool (decide (b<=a)))
 | _=>none
def HY (op:BinOp):Value->Value->Option Value
 | .int k a,.int k' b=>match IL k k' with
  | true=>HZ op a b
  | false=>none
 | _,_=>none
def vg (c:Op) (x:Value):Option Value :=
 match c with
 | .nilCheck _=>match x with
  | .pointer (some a)=>some (.pointer (some a))
  | _=>none
 | .unOp .not _ _=>match x with
  | .bool b=>some (.bool (!b))
  | _=>none
 | .extract _ i=>match x with
  | .tuple vs=>vs[i]?
  | _=>none
 | _=>none
def go (ρ:Operand->Value) (o:Op):Option Value :=
 match o with
 | .move x=>some (ρ x)
 | .assign x=>some (ρ x)
 | .makeFunc fn f c=>some (.func fn (f.map ρ) (c.map ρ))
 | .binOp op _ x y _=>HY op (ρ x) (ρ y)
 | .nilCheck x=>vg o (ρ x)
 | .unOp _ _ x=>vg o (ρ x)
 | .extract x _=>vg o (ρ x)
 | _=>none
section
variable {P:Program} {l:List Value} {w:World}
theorem PI {o:Op} {v:Value} (h:go (ev l) o=some v):dZ P l w o v:=by
 unfold go at h;split at h
 ·cases h;exact R.mv
 ·cases h;exact R.sO
 ·cases h;exact R.iL
 ·rename_i op t x y t';unfold HY at h;split at h
  ·rename_i k a k' b hx hy;split at h
   ·rename_i hk;have:=ND hk;subst this;unfold HZ at h
    split at h <;> first | (cases h;done) | skip
    ·cases h;exact R.eq hx hy
    ·cases h;exact R.ne hx hy
    ·cases h;exact R.lt hx hy
    ·cases h;exact R.le hx hy
    ·cases h;exact R.WY hx hy
    ·cases h;exact R.ge hx hy
   ·cases h
  ·cases h
 ·unfold vg at h;simp only at h;split at h
  ·rename_i a hx;cases h;exact R.IB hx
  ·cases h
 ·rename_i op t x;unfold vg at h
  cases op <;> simp only at h <;> first | (cases h;done) | skip
  split at h
  ·rename_i b hx;cases h;exact R.not hx
  ·cases h
 ·unfold vg at h;simp only at h;split at h
  ·rename_i vs hx;exact R.extract hx h
  ·cases h
 ·cases h
theorem R.pI {x y:Operand} {t t':TypeId} {a b:Nat} (hx:ev l x=ii a) (hy:ev l y=ii b) (hb:a+b<=9223372036854775807):dZ P l w (.binOp .add t x y t') (ii ((a+b:Nat):Int)):=R.add hx hy (by omega) (by omega)
theorem R.oG {x y:Operand} {t t':TypeId} {a:Nat} (hx:ev l x=ii a) (hy:ev l y=ii 1) (hb:a+1<=9223372036854775807):dZ P l w (.binOp .add t x y t') (ii ((a+1:Nat):Int)):=R.add hx hy (by omega) (by omega)
theorem R.uM {c a b:Operand} {t:Bool} (hc:ev l c=.bool t) (ht:t=true):dZ P l w (.pick c a b) (ev l a):=by
 subst ht;exact R.pick hc
theorem R.uL {c a b:Operand} {t:Bool} (hc:ev l c=.bool t) (ht:t=false):dZ P l w (.pick c a b) (ev l b):=by
 subst ht;exact R.pick hc
end
section
variable {P:Program} {Q:kK} {l:List Value} {w:World} {ops:Array Oper} {rest:List Oper} {d:Option Tmp} {op:Op} {ty:TypeId} {pos:String} {af:Array Edge} {v:Value} {S:Nat->Prop} {r:List (Oper × Bool)}
end
def tB (ops:List Oper) (l:List Value):Option (Nat × Bool)->Bool
 | none=>true
 | some (j,b)=>match (qR ops j).dst with
  | some t=>match nth l t with
   | .bool c=>c==b
   | _=>false
  | none=>false
def iT {α:Type}:List α->Nat->Bool
 | [],_=>false
 | _::_,0=>true
 | _::r,n+1=>iT r n
theorem zO {α:Type}:∀ {l:List α} {n:Nat},iT l n=true->n < l.length
 | [],_,h=>by cases h
 | _::_,0,_=>by simp
 | _::r,n+1,h=>by have:=zO (l:=r) (n:=n) h;simp;omega
def BX:Option (Nat × Bool)->List Oper->List Value->Bool
 | some (j,_),ops,l=>iT ops j&&(match (qR ops j).dst with
  | some t=>iT l t&&(match nth l t with | .bool _=>true | .tuple _=>true | _=>false)
  | none=>false)
 | none,_,_=>true
theorem G2 (ol:List Oper) (j:Nat) (h:j < ol.length):ol.toArray[j]?=some (qR ol j):=by
 obtain ⟨o,ho⟩:∃ o,ol.toArray[j]?=some o:=⟨ol[j],by simp [h]⟩;rw [ho,P6 ol j o ho]
theorem Sv (l:List Value) (t:Nat) (h:t < l.length):l[t]?=some (nth l t):=by
 induction l generalizing t with
 | nil=>simp at h
 | cons x l ih=>cases t with
  | zero=>rfl
  | succ t=>simpa [nth] using ih t (by simpa using h)
theorem uZ {ops:Array Oper} {d:Option Tmp} {op:Op} {ty:TypeId} {pos:String} {af:Array Edge} {gd:Option (Nat × Bool)} {l:List Value} (hb:BX gd ops.toList l=true) :
  Region.wanted ⟨d,op,ty,pos,af,gd⟩ (yielded ops (act l).tmps)=tB ops.toList l gd:=by
 cases gd with
 | none=>rfl
 | some x =>
  obtain ⟨j,b⟩:=x;simp only [BX,Bool.and_eq_true] at hb;obtain ⟨h1,h2⟩:=hb;have hj:=G2 ops.toList j (zO h1);simp only [Array.toArray_toList] at hj;simp only [Region.wanted,tB,yielded,hj,Option.bind_some]
  cases hd:(qR ops.toList j).dst with
  | none=>rw [hd] at h2;cases h2
  | some t =>
   rw [hd] at h2;simp only [Bool.and_eq_true] at h2;have ht:=Sv l t (zO h2.1);simp only [Option.bind_some,act]
   have DG:l.toArray[t]?=some (nth l t):=by simpa using ht
   rw [DG]
   cases hv:nth l t <;> rw [hv] at h2 <;> simp_all
def gv (ops:List Oper) (l:List Value) (gd:Nat × Bool):Option Bool :=
 match (qR ops gd.1).dst with
 | some t=>match nth l t with
  | .bool c=>some c
  | _=>none
 | none=>none
theorem L0 {ops:List Oper} {l:List Value} {gd:Nat × Bool} {c:Bool} (hv:gv ops l gd=some c) (hc:c=gd.2):tB ops l (some gd)=true:=by
 obtain ⟨j,b⟩:=gd;unfold gv at hv;unfold tB;simp only at hv hc |-;split at hv
 ·rename_i t ht;split at hv
  ·rename_i c' dj;cases hv;simp [hc]
  ·cases hv
 ·cases hv
theorem LZ {ops:List Oper} {l:List Value} {gd:Nat × Bool} {c:Bool} (hv:gv ops l gd=some c) (hc:c=!gd.2):tB ops l (some gd)=false:=by
 obtain ⟨j,b⟩:=gd;unfold gv at hv;unfold tB;simp only at hv hc |-;split at hv
 ·rename_i t ht;split at hv
  ·rename_i c' dj;cases hv;cases b <;> simp_all
  ·cases hv
 ·cases hv
theorem L1 {ops:List Oper} {l:List Value} {gd:Nat × Bool} (hv:gv ops l gd=none):tB ops l (some gd)=false:=by
 obtain ⟨j,b⟩:=gd;unfold gv at hv;unfold tB;simp only at hv |-;split at hv
 ·rename_i t ht;split at hv
  ·cases hv
  ·first | rfl | (split <;> simp_all)
 ·rfl
section
variable {P:Program} {Q:kK} {l:List Value} {w:World} {ops:Array Oper} {rest:List Oper} {d:Option Tmp} {op:Op} {ty:TypeId} {pos:String} {af:Array Edge} {v:Value} {S:Nat->Prop} {r:List (Oper × Bool)} {gd:Nat × Bool}
theorem GT {c:Bool} (hb:BX (some gd) ops.toList l=true) (hv:gv ops.toList l gd=some c) (hc:c=gd.2) (h:WL P ops Q (⟨d,op,ty,pos,af,none⟩::rest) l w):WL P ops Q (⟨d,op,ty,pos,af,some gd⟩::rest) l w:=WL.gt ((uZ hb).trans (L0 hv hc)) h
theorem GF {c:Bool} (hb:BX (some gd) ops.toList l=true) (hv:gv ops.toList l gd=some c) (hc:c=!gd.2) (h:WL P ops Q rest (put l d undef) w):WL P ops Q (⟨d,op,ty,pos,af,some gd⟩::rest) l w:=WL.gf ((uZ hb).trans (LZ hv hc)) h
theorem GU (hb:BX (some gd) ops.toList l=true) (hv:gv ops.toList l gd=none) (h:WL P ops Q rest (put l d undef) w):WL P ops Q (⟨d,op,ty,pos,af,some gd⟩::rest) l w:=WL.gf ((uZ hb).trans (L1 hv)) h
end
def IF:Value->Bool
 | .agg _=>false
 | .tuple _=>false
 | _=>true
theorem vC {v:Value} (h:IF v=true):v.cells=#[v]/\v.oneCell'=true:=by
 cases v <;> first | exact ⟨rfl,rfl⟩ | cases h
end Go.Xw
namespace Go.Xg
open Go.RowKit Go.Xw
inductive GV where
 | v (x:Value)
 | Zy
 | agg (cs:List GV)
 | tup (cs:List GV)
 | sl (k:Nat) (rows:List (List GV))
 | box (cs:List GV) (o:Nat)
 | loc (i o:Nat)
 | vec (i n:Nat)
 | vp (i n k idx off:Nat)
 | arr (i o n:Nat)
 | fn (f:Fn) (first cap:List GV)
abbrev Fz:=Nat->Nat->Option GV
inductive Bk where
 | no
 | fix (b:Nat)
 | gr (h:Value) (m:Nat)
def Bk.blk:Bk->Option Nat
 | .no=>none
 | .fix b=>some b
 | .gr h _=>h.ownBlock
abbrev Bt:=Nat->Bk
def cm (K K':Fz):Prop:=∀ b o g,K b o=some g->K' b o=some g
def rC:Bk->Bk->Prop
 | .no,_=>True
 | .fix b,x=>x=.fix b
 | .gr h m,x=>∃ h' m',x=.gr h' m'/\m<=m'/\(m'=m->h'=h)
def dc (β bP:Bt):Prop:=∀ i,rC (β i) (bP i)
theorem cm.refl (K:Fz):cm K K:=fun _ _ _ h=>h
theorem cm.trans {a b c:Fz} (h:cm a b) (k:cm b c):cm a c:=fun x y z hz=>k x y z (h x y z hz)
theorem rC.refl (x:Bk):rC x x:=by cases x with | no=>trivial | fix b=>rfl | gr h m=>exact ⟨h,m,rfl,Nat.le_refl _,fun _=>rfl⟩
theorem rC.trans {a b c:Bk} (h:rC a b) (k:rC b c):rC a c:=by
 cases a with
 | no=>trivial
 | fix x=>cases h;exact k
 | gr x m =>
  obtain ⟨x',m',rfl,h1,h2⟩:=h;obtain ⟨x2,m2,rfl,h3,h4⟩:=k
  exact ⟨x2,m2,rfl,Nat.le_trans h1 h3,fun he=>by
   have:m'=m:=by omega
   rw [h4 (by omega),h2 this]⟩
theorem dc.refl (β:Bt):dc β β:=fun i=>rC.refl _
theorem dc.trans {a b c:Bt} (h:dc a b) (k:dc b c):dc a c:=fun i=>(h i).trans (k i)
inductive Rel (K:Fz) (β:Bt):Value->GV->Prop
 | v (x:Value):Rel K β x (.v x)
 | Zy (x:Value):Rel K β x .Zy
 | agg (vs:List Value) (cs:List GV) (hl:vs.length=cs.length) (h:∀ (i:Nat) v g,vs[i]?=some v->cs[i]?=some g->Rel K β v g):Rel K β (.agg vs.toArray) (.agg cs)
 | tup (vs:List Value) (cs:List GV) (hl:vs.length=cs.length) (h:∀ (i:Nat) v g,vs[i]?=some v->cs[i]?=some g->Rel K β v g):Rel K β (.tuple vs.toArray) (.tup cs)
 | sl0 (a:Option Addr) (c k:Nat):Rel K β (.slice a 0 c) (.sl k [])
 | sl (b o c k:Nat) (rows:List (List GV)) (h:∀ (i:Nat) r,rows[i]?=some r->r.length=k/\∀ (j:Nat) g,r[j]?=some g->K b (o+i * k+j)=some g) (hc:rows.length<=c):Rel K β (.slice (some ⟨b,o,none⟩) rows.length c) (.sl k rows)
 | box (b o' o:Nat) (cs:List GV) (h:∀ (j:Nat) g,cs[j]?=some g->K b (o'+j)=some g):Rel K β (.pointer (some ⟨b,o'+o,none⟩)) (.box cs o)
 | loc (i o b:Nat) (h:β i=.fix b):Rel K β (.pointer (some ⟨b,o,none⟩)) (.loc i o)
 | vec (i n:Nat) (a:Option Addr) (c:Nat) (h:∃ h m,β i=.gr h m/\n<=m/\(m=n->.slice a n c=h)):Rel K β (.slice a n c) (.vec i n)
 | vp (i n k idx off:Nat) (x:Value) (h:∃ h m,β i=.gr h m/\n<=m/\(m=n->∃ b,h.ownBlock=some b/\x=.pointer (some ⟨b,idx * k+off,none⟩))):Rel K β x (.vp i n k idx off)
 | arr (i o n b c:Nat) (h:β i=.fix b):Rel K β (.slice (some ⟨b,o,none⟩) n c) (.arr i o n)
 | fn (f:Fn) (xs ys:List Value) (first cap:List GV) (hl:xs.length=first.length) (iG:ys.length=cap.length) (h:∀ (i:Nat) v g,xs[i]?=some v->first[i]?=some g->Rel K β v g)
   (h':∀ (i:Nat) v g,ys[i]?=some v->cap[i]?=some g->Rel K β v g):Rel K β (.func f xs.toArray ys.toArray) (.fn f first cap)
theorem Rel.mono {K K':Fz} {β bP:Bt} {x:Value} {g:GV} (h:Rel K β x g) (hk:cm K K') (hb:dc β bP):Rel K' bP x g:=by
 induction h with
 | v x=>exact .v x
 | Zy x=>exact .Zy x
 | agg vs cs hl h ih=>exact .agg vs cs hl ih
 | tup vs cs hl h ih=>exact .tup vs cs hl ih
 | sl0 a c k=>exact .sl0 a c k
 | sl b o c k rows h hc=>exact .sl b o c k rows (fun i r hr=>⟨(h i r hr).1,fun j g hg=>hk _ _ _ ((h i r hr).2 j g hg)⟩) hc
 | box b o' o cs h=>exact .box b o' o cs fun j g hg=>hk _ _ _ (h j g hg)
 | loc i o b h=>exact .loc i o b (by have:=hb i;rw [h] at this;exact this)
 | vec i n a c h =>
  obtain ⟨h0,m,h1,h2,h3⟩:=h;have h4:=hb i;rw [h1] at h4;obtain ⟨h',m',h5,h6,h7⟩:=h4;exact .vec i n a c ⟨h',m',h5,by omega,fun he=>by rw [h7 (by omega)];exact h3 (by omega)⟩
 | vp i n k idx off x h =>
  obtain ⟨h0,m,h1,h2,h3⟩:=h;have h4:=hb i;rw [h1] at h4;obtain ⟨h',m',h5,h6,h7⟩:=h4;exact .vp i n k idx off x ⟨h',m',h5,by omega,fun he=>by rw [h7 (by omega)];exact h3 (by omega)⟩
 | arr i o n b c h=>exact .arr i o n b c (by have:=hb i;rw [h] at this;exact this)
 | fn f xs ys first cap hl iG h h' ih ih'=>exact .fn f xs ys first cap hl iG ih ih'
def GV.pc:GV->Bool
 | .v _=>true
 | .sl _ _=>true
 | .box _ _=>true
 | _=>false
theorem Rel.pc {K:Fz} {β bP:Bt} {x:Value} {g:GV} (h:Rel K β x g) (hp:g.pc=true):Rel K bP x g:=by
 cases h <;> first | (cases hp;done) | skip
 ·exact .v _
 ·exact .sl0 _ _ _
 ·rename_i h hc;exact .sl _ _ _ _ _ h hc
 ·rename_i h;exact .box _ _ _ _ h
def GV.one:GV->Bool
 | .v x=>IF x
 | .Zy=>false
 | .agg _=>false
 | .tup _=>false
 | .vp _ _ _ _ _=>false
 | _=>true
theorem Rel.one {K:Fz} {β:Bt} {x:Value} {g:GV} (h:Rel K β x g) (ho:g.one=true):IF x=true:=by
 cases h <;> first | exact ho | rfl | (cases ho;done)
abbrev aV (K:Fz) (β:Bt) (vs:List Value) (gs:List GV):Prop:=vs.length=gs.length/\∀ (i:Nat) v g,vs[i]?=some v->gs[i]?=some g->Rel K β v g
theorem aV.mono {K K':Fz} {β bP:Bt} {vs:List Value} {gs:List GV} (h:aV K β vs gs) (hk:cm K K') (hb:dc β bP):aV K' bP vs gs:=⟨h.1,fun i v g h1 h2=>(h.2 i v g h1 h2).mono hk hb⟩
theorem aV.nil {K:Fz} {β:Bt}:aV K β [] []:=⟨rfl,fun i v g h=>by simp at h⟩
theorem aV.cons {K:Fz} {β:Bt} {v:Value} {g:GV} {vs:List Value} {gs:List GV} (h:Rel K β v g) (hs:aV K β vs gs):aV K β (v::vs) (g::gs):=by
 refine ⟨by simp [hs.1],fun i x y h1 h2=>?_⟩
 cases i with
 | zero=>cases h1;cases h2;exact h
 | succ i=>exact hs.2 i x y h1 h2
theorem aV.nR {K:Fz} {β:Bt} {v:Value} {g:GV} {vs:List Value} {gs:List GV} (h:aV K β (v::vs) (g::gs)):Rel K β v g/\aV K β vs gs :=
 ⟨h.2 0 v g rfl rfl,by simpa using h.1,fun i x y h1 h2=>h.2 (i+1) x y h1 h2⟩
theorem aV.app {K:Fz} {β:Bt} {vs us:List Value} {gs hs:List GV} (h:aV K β vs gs) (k:aV K β us hs):aV K β (vs++us) (gs++hs):=by
 induction vs generalizing gs with
 | nil =>
  have:gs=[]:=by have:=h.1;simp at this;exact eq_nil_of_length_eq_zero this.symm
  subst this;exact k
 | cons v vs ih =>
  cases gs with
  | nil=>have:=h.1;simp at this
  | cons g gs=>obtain ⟨h1,h2⟩:=h.nR;exact .cons h1 (ih h2)
theorem aV.at {K:Fz} {β:Bt} {vs:List Value} {gs:List GV} (h:aV K β vs gs) {i:Nat} {g:GV} (hg:gs[i]?=some g):∃ v,vs[i]?=some v/\Rel K β v g:=by
 have hi:i < vs.length:=by rw [h.1];exact (List.getElem?_eq_some_iff.1 hg).1
 exact ⟨vs[i],by simp [hi],h.2 i _ g (by simp [hi]) hg⟩
theorem aV.take {K:Fz} {β:Bt} {vs:List Value} {gs:List GV} (h:aV K β vs gs) (n:Nat):aV K β (vs.take n) (gs.take n):=by
 refine ⟨by simp [h.1],fun i x y h1 h2=>?_⟩;rw [getElem?_take] at h1 h2;split at h1
 ·rename_i hi;rw [if_pos hi] at h2;exact h.2 i x y h1 h2
 ·cases h1
theorem aV.drop {K:Fz} {β:Bt} {vs:List Value} {gs:List GV} (h:aV K β vs gs) (n:Nat):aV K β (vs.drop n) (gs.drop n):=by
 refine ⟨by simp [h.1],fun i x y h1 h2=>?_⟩;rw [getElem?_drop] at h1 h2;exact h.2 _ x y h1 h2
def cj:List GV->Nat->GV
 | [],_=>.Zy
 | g::_,0=>g
 | _::l,n+1=>cj l n
def bj:List GV->Nat->GV->List GV
 | [],_,_=>[]
 | _::l,0,g=>g::l
 | x::l,n+1,g=>x::bj l n g
def aP (l:List GV):Operand->GV
 | .tmp t=>cj l t
 | .const v=>.v v
 | .global g=>.v (.pointer (some ⟨g,0,none⟩))
 | .func f=>.v (.func (.func f) #[] #[])
def bh (l:List GV) (d:Option Tmp) (g:GV):List GV:=match d with | some d=>bj l d g | none=>l
inductive FR (K:Fz) (β:Bt):List GV->List Value->Prop
 | nil:FR K β [] []
 | cons {g:GV} {v:Value} {gs:List GV} {vs:List Value} (h:Rel K β v g) (t:FR K β gs vs):FR K β (g::gs) (v::vs)
theorem FR.mono {K K':Fz} {β bP:Bt} {gs:List GV} {vs:List Value} (h:FR K β gs vs) (hk:cm K K') (hb:dc β bP):FR K' bP gs vs:=by
 induction h with
 | nil=>exact .nil
 | cons h t ih=>exact .cons (h.mono hk hb) ih
theorem FR.nth {K:Fz} {β:Bt} {gs:List GV} {vs:List Value} (h:FR K β gs vs) (t:Nat):Rel K β (nth vs t) (cj gs t):=by
 induction h generalizing t with
 | nil=>exact .Zy _
 | cons h _ ih=>cases t with | zero=>exact h | succ t=>exact ih t
theorem FR.ev {K:Fz} {β:Bt} {gs:List GV} {vs:List Value} (h:FR K β gs vs) (x:Operand):Rel K β (ev vs x) (aP gs x):=by
 cases x with
 | tmp t=>exact h.nth t
 | const v=>exact .v _
 | global g=>exact .v _
 | func f=>exact .v _
theorem FR.eF {K:Fz} {β:Bt} {gs:List GV} {vs:List Value} (h:FR K β gs vs) (t:Nat) {v:Value} {g:GV} (hv:Rel K β v g):FR K β (bj gs t g) (eF vs t v):=by
 induction h generalizing t with
 | nil=>exact .nil
 | cons h ht ih=>cases t with | zero=>exact .cons hv ht | succ t=>exact .cons h (ih t)
theorem FR.put {K:Fz} {β:Bt} {gs:List GV} {vs:List Value} (h:FR K β gs vs) (d:Option Tmp) {v:Value} {g:GV} (hv:Rel K β v g):FR K β (bh gs d g) (put vs d v):=by
 cases d with | none=>exact h | some d=>exact h.eF d hv
theorem FR.args {K:Fz} {β:Bt} {gs:List GV} {vs:List Value} (h:FR K β gs vs) (xs:List Operand):aV K β (xs.map (Xw.ev vs)) (xs.map (aP gs)):=by
 induction xs with
 | nil=>exact .nil
 | cons x xs ih=>exact .cons (h.ev x) ih
inductive Ob where
 | gone
 | box (E:TypeId) (cs:List GV)
 | vec (E:TypeId) (k fz:Nat) (rows:List (List GV))
 | vech (E:TypeId) (k:Nat) (rows:List (List GV)) (x:Value)
 | lost
def iI (K:Fz) (w:World):Prop:=∀ b o g,K b o=some g->g.pc=true/\∃ v,fp w.heap b o=some v/\Rel K (fun _=>.no) v g
def fM (k:Nat) (rows:List (List GV)):Prop:=∀ r∈rows,r.length=k/\∀ g∈r,g.pc=true
def jC (K:Fz) (β:Bt) (w:World) (i:Nat):Ob->Prop
 | .gone=>β i=.no
 | .box E cs=>∃ b vs,β i=.fix b/\w.heap[b]?=some (.cells vs.toArray E (0,0))/\aV K β vs cs/\∀ o,K b o=none
 | .vec E k fz rows=>∃ h xs,β i=.gr h rows.length/\gw w 0 E k h rows.length xs/\aV K β xs rows.flatten/\fM k rows /\
   (∀ b,h.ownBlock=some b->(∀ o,fz * k<=o->K b o=none)/\∀ o g,o < fz * k->rows.flatten[o]?=some g->K b o=some g)/\fz<=rows.length
 | .vech E k rows x=>∃ xs,β i=.gr x rows.length/\gw w 0 E k x rows.length xs/\aV K β xs rows.flatten/\fM k rows/\∀ b,x.ownBlock=some b->∀ o,K b o=none
 | .lost=>∀ b,(β i).blk=some b->b < w.heap.size
def uN:List Int:=(List.range 20).map fun i=>((10 ^ i:Nat):Int)
def uS:List Int:=(List.range 256).map fun i=>if i=9\/i=10\/i=11\/i=12\/i=13\/i=32 then 1 else 0
def vW (m:Int):Fz:=fun b o =>
 if b=0 then (match o with | 0=>some (.v (.int .i64 m)) | _=>none)
 else if b=1 then uN[o]?.map fun z=>.v (.int .u64 z)
 else if b=2 then uS[o]?.map fun z=>.v (.int .u8 z)
 else none
def rG (w:World) (b n:Nat):Prop:=∃ cs E z,w.heap[b]?=some (.cells cs E z)/\cs.size=n
theorem rG.lt {w:World} {b n:Nat} (h:rG w b n):b < w.heap.size:=by obtain ⟨cs,E,z,h,_⟩:=h;exact qE h
structure gB (K:Fz) (β:Bt) (w:World):Prop where
 le:∃ m,cm (vW m) K
 pow:rG w 1 20
 spc:rG w 2 256
 free:∀ i b,(β i).blk=some b->b≠1/\b≠2
theorem gB.step {S:Nat->Prop} {K K':Fz} {β bP:Bt} {w w':World} (h:gB K β w) (hx:Ext S w w') (hS:∀ b,S b->∃ i,(β i).blk=some b) (hk:cm K K') (pE:∀ i b,(bP i).blk=some b->(∃ j,(β j).blk=some b)\/w.heap.size<=b):gB K' bP w':=by
 obtain ⟨⟨m,h1⟩,h2,h3,h4⟩:=h
 have key:∀ {b n:Nat},rG w b n->¬ S b->rG w' b n:=fun ⟨cs,E,z,a,e⟩ hn=>⟨cs,E,z,hx.blk a hn,e⟩
 refine ⟨⟨m,h1.trans hk⟩,key h2 (fun hs=>?_),key h3 (fun hs=>?_),fun i b hb=>?_⟩
 ·obtain ⟨i,hi⟩:=hS _ hs;exact (h4 i _ hi).1 rfl
 ·obtain ⟨i,hi⟩:=hS _ hs;exact (h4 i _ hi).2 rfl
 ·rcases pE i b hb with ⟨j,hj⟩ | hs
  ·exact h4 j b hj
  ·have:=h2.lt;have:=h3.lt;exact ⟨by omega,by omega⟩
structure Bs where
 w0:World
 foot:Nat->Prop
 K0:Fz
 β0:Bt
 m:Nat
structure Inv (B:Bs) (K:Fz) (β:Bt) (Γ:List Ob) (w:World):Prop where
 ext:Ext B.foot B.w0 w
 kle:cm B.K0 K
 ble:dc B.β0 β
 loc:∀ i,B.m<=i->B.β0 i=.no
 fz:iI K w
 ob:∀ i x,Γ[i]?=some x->jC K β w i x
 out:∀ i,Γ.length<=i->β i=.no
 dis:∀ i j b,(β i).blk=some b->(β j).blk=some b->i=j
 own:∀ i b,(β i).blk=some b->B.foot b\/B.w0.heap.size<=b
 kn:∀ b o g,K b o=some g->B.K0 b o=some g\/B.foot b\/B.w0.heap.size<=b
 tab:gB K β w
section
variable {B:Bs} {K:Fz} {β:Bt} {Γ:List Ob} {w:World}
theorem jC.lt {i:Nat} {x:Ob} (h:jC K β w i x) {b:Nat} (hb:(β i).blk=some b):b < w.heap.size:=by
 cases x with
 | gone=>simp only [jC] at h;rw [h] at hb;cases hb
 | box E cs =>
  obtain ⟨b',vs,h1,h2,_⟩:=h;rw [h1] at hb;cases hb;exact qE h2
 | vec E k fz rows =>
  obtain ⟨h',xs,h1,h2,_⟩:=h;rw [h1] at hb;exact (h2.lt hb).2
 | vech E k rows x =>
  obtain ⟨xs,h1,h2,_⟩:=h;rw [h1] at hb;exact (h2.lt hb).2
 | lost=>exact h b hb
theorem Inv.lt (h:Inv B K β Γ w) {i b:Nat} (hb:(β i).blk=some b):b < w.heap.size:=by
 by_cases hi:i < Γ.length
 ·exact (h.ob i Γ[i] (by simp [hi])).lt hb
 ·rw [h.out i (by omega)] at hb;cases hb
theorem iI.lt (h:iI K w) {b o:Nat} {g:GV} (hg:K b o=some g):b < w.heap.size:=by
 obtain ⟨_,v,hv,_⟩:=h b o g hg;exact C3 hv
def blocks (β:Bt):Nat->Prop:=fun b=>∃ i,(β i).blk=some b
def cur (K:Fz) (β:Bt) (Γ:List Ob) (w:World):Bs:=⟨w,blocks β,K,β,Γ.length⟩
theorem Inv.here (h:Inv B K β Γ w):Inv (cur K β Γ w) K β Γ w :=
 ⟨Ext.refl w,cm.refl K,dc.refl β,h.out,h.fz,h.ob,h.out,h.dis,fun i b hb=>.inl ⟨i,hb⟩,fun _ _ _ h=>.inl h,h.tab⟩
theorem Inv.Ls {K':Fz} {bP:Bt} {aH Vl:List Ob} {w':World} (h:Inv B K β Γ w) (k:Inv (cur K β Vl w) K' bP aH w'):Inv B K' bP aH w' :=
 ⟨h.ext.step k.ext (fun j hj=>by obtain ⟨i,hi⟩:=hj;exact (h.own i j hi).symm),h.kle.trans k.kle,h.ble.trans k.ble,h.loc,k.fz,k.ob,k.out,k.dis,
  fun i b hb=>by
   rcases k.own i b hb with h1 | h1
   ·obtain ⟨j,hj⟩:=h1;exact h.own j b hj
   ·exact .inr (Nat.le_trans h.ext.size h1),
  fun b o g hg=>by
   rcases k.kn b o g hg with h1 | ⟨j,hj⟩ | h1
   ·exact h.kn b o g h1
   ·exact .inr (h.own j b hj)
   ·exact .inr (.inr (Nat.le_trans h.ext.size h1)),k.tab⟩
theorem jC.ext {S:Nat->Prop} {K':Fz} {bP:Bt} {w':World} {i:Nat} {x:Ob} (h:jC K β w i x) (hx:Ext S w w') (hs:∀ b,(β i).blk=some b->¬ S b) (hk:cm K K') (hb:dc β bP)
  (he:bP i=β i) (hn:∀ b o,(β i).blk=some b->K b o=none->K' b o=none):jC K' bP w' i x:=by
 cases x with
 | gone=>simp only [jC] at h |-;rw [he,h]
 | box E cs =>
  obtain ⟨b,vs,h1,h2,h3,h4⟩:=h
  have ed:(β i).blk=some b:=by rw [h1];rfl
  exact ⟨b,vs,he.trans h1,hx.blk h2 (hs b ed),h3.mono hk hb,fun o=>hn b o ed (h4 o)⟩
 | vec E k fz rows =>
  obtain ⟨h',xs,h1,h2,h3,h4,h5,h6⟩:=h
  have ed:∀ b,h'.ownBlock=some b->(β i).blk=some b:=fun b hb=>by rw [h1];exact hb
  exact ⟨h',xs,he.trans h1,h2.ext hx (fun b ba=>hs b (ed b ba)),h3.mono hk hb,h4,fun b ba=>⟨fun o ho=>hn b o (ed b ba) ((h5 b ba).1 o ho),fun o g ho hg=>hk _ _ _ ((h5 b ba).2 o g ho hg)⟩,h6⟩
 | vech E k rows x =>
  obtain ⟨xs,h1,h2,h3,h4,h5⟩:=h
  have ed:∀ b,x.ownBlock=some b->(β i).blk=some b:=fun b hb=>by rw [h1];exact hb
  exact ⟨xs,he.trans h1,h2.ext hx (fun b ba=>hs b (ed b ba)),h3.mono hk hb,h4,fun b ba o=>hn b o (ed b ba) (h5 b ba o)⟩
 | lost=>exact fun b ba=>Nat.lt_of_lt_of_le (h b (by rw [<-he];exact ba)) hx.size
theorem iI.ext {S:Nat->Prop} {w':World} (h:iI K w) (hx:Ext S w w') (hs:∀ b o g,K b o=some g->¬ S b):iI K w':=fun b o g hg=>by
 obtain ⟨h1,v,hv,hr⟩:=h b o g hg;exact ⟨h1,v,hx.c hv (hs b o g hg),hr⟩
theorem Inv.same {w':World} (h:Inv B K β Γ w) (hx:Ext gX w w'):Inv B K β Γ w' :=
 ⟨h.ext.step hx (fun j hj=>hj.elim),h.kle,h.ble,h.loc,h.fz.ext hx (fun _ _ _ _ h=>h),fun i x hi=>(h.ob i x hi).ext hx (fun _ _ h=>h) (cm.refl K) (dc.refl β) rfl (fun _ _ _ h=>h),h.out,h.dis,h.own,h.kn,h.tab.step hx (fun _ h=>h.elim) (cm.refl K) (fun i b h=>.inl ⟨i,h⟩)⟩
def gh (p:Nat->Bool) (β:Bt):Bt:=fun i=>match p i with
 | true=>β i
 | false=>.no
theorem iq {p:Nat->Bool} {β:Bt} {i:Nat} (h:p i=true):gh p β i=β i:=by simp [gh,h]
theorem Ba {p:Nat->Bool} {β:Bt} {i:Nat} (h:p i=false):gh p β i=.no:=by simp [gh,h]
end
end Go.Xg
namespace Go.Xg
open Go.RowKit Go.Xw
section
variable {B:Bs} {K:Fz} {β:Bt} {Γ:List Ob} {w:World}
def eK (β:Bt) (i:Nat) (x:Bk):Bt:=fun j=>if j=i then x else β j
theorem bm {i:Nat} {x:Bk}:eK β i x i=x:=by simp [eK]
theorem bR {i j:Nat} {x:Bk} (h:j≠i):eK β i x j=β j:=by simp [eK,h]
theorem oB {i j b:Nat} {x:Bk} (h:(eK β i x j).blk=some b):x.blk=some b\/(β j).blk=some b:=by
 by_cases hj:j=i
 ·subst hj;rw [bm] at h;exact .inl h
 ·rw [bR hj] at h;exact .inr h
theorem gk {i:Nat} {x:Bk} (h:rC (β i) x):dc β (eK β i x):=fun j=>by
 by_cases hj:j=i
 ·subst hj;rw [bm];exact h
 ·rw [bR hj];exact rC.refl _
theorem aV.self {vs:List Value}:aV K β vs (vs.map .v):=⟨by simp,fun i v g h1 h2=>by
 rw [getElem?_map,h1] at h2;cases h2;exact .v _⟩
theorem Inv.add {w':World} {b:Nat} {vs:List Value} {cs:List GV} {E:TypeId} (h:Inv B K β Γ w) (hn:tU w w' b (.cells vs.toArray E)) (hr:aV K β vs cs) :
  Inv B K (eK β Γ.length (.fix b)) (Γ++[.box E cs]) w':=by
 have bV:β Γ.length=.no:=h.out _ (Nat.le_refl _);have hle:dc β (eK β Γ.length (.fix b)):=gk (by rw [bV];trivial)
 have aq:∀ i b',(β i).blk=some b'->b'≠b:=fun i b' ba=>by have:=h.lt ba;have:=hn.fresh;omega
 have hK:∀ o,K b o=none:=fun o=>by
  cases hk:K b o with
  | none=>rfl
  | some g=>have:=h.fz.lt hk;have:=hn.fresh;omega
 refine ⟨h.ext.step hn.ext (fun j hj=>hj.elim),h.kle,h.ble.trans hle,h.loc,h.fz.ext hn.ext (fun _ _ _ _ h=>h),fun i x hi=>?_,fun i hi=>?_,fun i j b' hi hj=>?_,fun i b' hi=>?_,h.kn,h.tab.step hn.ext (fun _ h=>h.elim) (cm.refl K) (fun i b2 hi=>by rcases oB hi with h1 | h1;(· cases h1;exact .inr (by have:=hn.fresh;omega));exact .inl ⟨i,h1⟩)⟩
 ·by_cases wA:i < Γ.length
  ·rw [getElem?_append_left wA] at hi
   have bO:i≠Γ.length:=by omega
   exact (h.ob i x hi).ext hn.ext (fun _ _ h=>h) (cm.refl K) hle (bR bO) (fun _ _ _ h=>h)
  ·have:i=Γ.length:=by have:=(List.getElem?_eq_some_iff.1 hi).1;simp at this;omega
   subst this;simp at hi;subst hi;exact ⟨b,vs,bm,hn.blk,hr.mono (cm.refl K) hle,hK⟩
 ·simp at hi;rw [bR (by omega)];exact h.out i (by omega)
 ·by_cases h1:i=Γ.length <;> by_cases h2:j=Γ.length
  ·omega
  ·subst h1;rw [bm] at hi;rw [bR h2] at hj;cases hi;exact absurd rfl (aq j _ hj)
  ·subst h2;rw [bm] at hj;rw [bR h1] at hi;cases hj;exact absurd rfl (aq i _ hi)
  ·rw [bR h1] at hi;rw [bR h2] at hj;exact h.dis i j b' hi hj
 ·by_cases h1:i=Γ.length
  ·subst h1;rw [bm] at hi;cases hi;exact .inr (by have:=hn.fresh;have:=h.ext.size;omega)
  ·rw [bR h1] at hi;exact h.own i b' hi
theorem Inv.Aq {w':World} {E k:Nat} {x:Value} {xs:List Value} {rows:List (List GV)} (h:Inv B K β Γ w) (hx:Ext gX w w') (ho:gw w' 0 E k x rows.length xs) (hf:∀ b,x.ownBlock=some b->w.heap.size<=b)
  (hr:aV K β xs rows.flatten) (hk:fM k rows):Inv B K (eK β Γ.length (.gr x rows.length)) (Γ++[.vec E k 0 rows]) w':=by
 have bV:β Γ.length=.no:=h.out _ (Nat.le_refl _);have hle:dc β (eK β Γ.length (.gr x rows.length)):=gk (by rw [bV];trivial)
 have aq:∀ i b',(β i).blk=some b'->x.ownBlock≠some b':=fun i b' ba he=>by have:=h.lt ba;have:=hf b' he;omega
 have hK:∀ b,x.ownBlock=some b->∀ o,K b o=none:=fun b hb o=>by
  cases hk:K b o with
  | none=>rfl
  | some g=>have:=h.fz.lt hk;have:=hf b hb;omega
 refine ⟨h.ext.step hx (fun j hj=>hj.elim),h.kle,h.ble.trans hle,h.loc,h.fz.ext hx (fun _ _ _ _ h=>h),fun i y hi=>?_,fun i hi=>?_,fun i j b' hi hj=>?_,fun i b' hi=>?_,h.kn,h.tab.step hx (fun _ h=>h.elim) (cm.refl K) (fun i b2 hi=>by rcases oB hi with h1 | h1;(· exact .inr (hf b2 h1));exact .inl ⟨i,h1⟩)⟩
 ·by_cases wA:i < Γ.length
  ·rw [getElem?_append_left wA] at hi
   have bO:i≠Γ.length:=by omega
   exact (h.ob i y hi).ext hx (fun _ _ h=>h) (cm.refl K) hle (bR bO) (fun _ _ _ h=>h)
  ·have:i=Γ.length:=by have:=(List.getElem?_eq_some_iff.1 hi).1;simp at this;omega
   subst this;simp at hi;subst hi;exact ⟨x,xs,bm,ho,hr.mono (cm.refl K) hle,hk,fun b hb=>⟨fun o _=>hK b hb o,fun o g ho _=>by omega⟩,Nat.zero_le _⟩
 ·simp at hi;rw [bR (by omega)];exact h.out i (by omega)
 ·by_cases h1:i=Γ.length <;> by_cases h2:j=Γ.length
  ·omega
  ·subst h1;rw [bm] at hi;rw [bR h2] at hj;exact absurd hi (aq j _ hj)
  ·subst h2;rw [bm] at hj;rw [bR h1] at hi;exact absurd hj (aq i _ hi)
  ·rw [bR h1] at hi;rw [bR h2] at hj;exact h.dis i j b' hi hj
 ·by_cases h1:i=Γ.length
  ·subst h1;rw [bm] at hi;exact .inr (Nat.le_trans h.ext.size (hf b' hi))
  ·rw [bR h1] at hi;exact h.own i b' hi
def kl (K:Fz) (b:Nat) (cs:List GV):Fz:=fun b' o=>if b'=b then cs[o]? else K b' o
theorem tW {b o:Nat} {cs:List GV} {g:GV} (h:cs[o]?=some g):kl K b cs b o=some g:=by simp [kl,h]
theorem Inv.sS {w':World} {b:Nat} {vs:List Value} {cs:List GV} {E:TypeId} (h:Inv B K β Γ w) (hn:tU w w' b (.cells vs.toArray E)) (hr:aV K β vs cs) (hp:∀ g∈cs,g.pc=true) :
  cm K (kl K b cs)/\Inv B (kl K b cs) β Γ w':=by
 have Rk:∀ o,K b o=none:=fun o=>by
  cases hk:K b o with
  | none=>rfl
  | some g=>have:=h.fz.lt hk;have:=hn.fresh;omega
 have hle:cm K (kl K b cs):=fun b' o g hg=>by
  by_cases hb:b'=b
  ·subst hb;rw [Rk] at hg;cases hg
  ·simp [kl,hb,hg]
 refine ⟨hle,h.ext.step hn.ext (fun j hj=>hj.elim),h.kle.trans hle,h.ble,h.loc,fun b' o g hg=>?_,fun i x hi=>?_,h.out,h.dis,h.own,fun b' o g hg=>?_,h.tab.step hn.ext (fun _ h=>h.elim) hle (fun i b2 h=>.inl ⟨i,h⟩)⟩
 ·by_cases hb:b'=b
  ·subst hb;simp [kl] at hg;obtain ⟨v,hv,eG⟩:=hr.at hg;have wH:=hp g (mem_of_getElem? hg);exact ⟨wH,v,u9 hn.blk (by simpa using hv),(eG.mono hle (dc.refl β)).pc wH⟩
  ·have kM:K b' o=some g:=by simpa [kl,hb] using hg
   obtain ⟨h1,v,h2,h3⟩:=h.fz b' o g kM;exact ⟨h1,v,hn.ext.c h2 (fun h=>h),h3.mono hle (dc.refl _)⟩
 ·refine (h.ob i x hi).ext hn.ext (fun _ _ h=>h) hle (dc.refl β) rfl (fun b' o hb hk=>?_)
  have:b'≠b:=by have:=h.lt hb;have:=hn.fresh;omega
  simp [kl,this,hk]
 ·by_cases hb:b'=b
  ·exact .inr (.inr (by have:=hn.fresh;have:=h.ext.size;omega))
  ·exact h.kn b' o g (by simpa [kl,hb] using hg)
theorem Inv.store {w':World} {i b:Nat} {E:TypeId} {cs xS:List GV} {S4:List Value} (h:Inv B K β Γ w) (hi:Γ[i]?=some (.box E cs)) (hb:β i=.fix b) (hs:sM w w' b S4.toArray E)
  (hr:aV K β S4 xS):Inv B K β (Γ.set i (.box E xS)) w':=by
 obtain ⟨b0,vs,h1,h2,h3,h4⟩:=h.ob i _ hi;rw [hb] at h1;cases h1
 have ed:(β i).blk=some b:=by rw [hb];rfl
 refine ⟨h.ext.step hs.ext (fun j hj=>?_),h.kle,h.ble,h.loc,h.fz.ext hs.ext (fun b' o g hg he=>?_),fun j x hj=>?_,fun j hj=>h.out j (by simpa using hj),h.dis,h.own,h.kn,h.tab.step hs.ext (fun j hj=>⟨i,by subst hj;exact ed⟩) (cm.refl K) (fun i b2 h=>.inl ⟨i,h⟩)⟩
 ·subst hj;exact (h.own i _ ed).symm
 ·subst he;rw [h4] at hg;cases hg
 ·rw [getElem?_set] at hj;split at hj
  ·rename_i fU;split at hj
   ·cases hj;subst fU
    exact ⟨b,S4,hb,hs.blk,hr,h4⟩
   ·cases hj
  ·rename_i fU;refine (h.ob j x hj).ext hs.ext (fun b' ba he=>?_) (cm.refl K) (dc.refl β) rfl (fun _ _ _ h=>h);subst he;exact fU (h.dis i j _ ed ba)
def zq (K:Fz) (x:Value) (n:Nat) (fl:List GV):Fz:=fun b o=>if x.ownBlock=some b/\o < n then fl[o]? else K b o
theorem xq {x:Value} {n b o:Nat} {fl:List GV} (h1:x.ownBlock=some b) (h2:o < n):zq K x n fl b o=fl[o]?:=by unfold zq;rw [if_pos ⟨h1,h2⟩]
theorem vh {x:Value} {n b o:Nat} {fl:List GV} (h:¬ (x.ownBlock=some b/\o < n)):zq K x n fl b o=K b o:=by unfold zq;rw [if_neg h]
theorem zr {x:Value} {n b o:Nat} {fl:List GV} {g:GV} (h:zq K x n fl b o=some g):(x.ownBlock=some b/\o < n/\fl[o]?=some g)\/(¬ (x.ownBlock=some b/\o < n)/\K b o=some g):=by
 by_cases hc:x.ownBlock=some b/\o < n
 ·rw [xq hc.1 hc.2] at h;exact .inl ⟨hc.1,hc.2,h⟩
 ·rw [vh hc] at h;exact .inr ⟨hc,h⟩
theorem Inv.grow {w':World} {i:Nat} {E k fz:Nat} {rows news:List (List GV)} {h0 x:Value} {xs ns:List Value} (h:Inv B K β Γ w) (hi:Γ[i]?=some (.vec E k fz rows)) (hb:β i=.gr h0 rows.length)
  (qY:gw w 0 E k h0 rows.length xs/\aV K β xs rows.flatten) (ho:gw w' 0 E k x (rows.length+news.length) (xs++ns)) (hx:Ext (fun b=>h0.ownBlock=some b) w w') (hf:∀ b,x.ownBlock=some b->h0.ownBlock=some b\/w.heap.size<=b)
  (hr:aV K β ns news.flatten) (hk:fM k news) (bO:news≠[]) (kE:∀ b,h0.ownBlock=some b->∀ o v,o < fz * k->fp w.heap b o=some v->fp w'.heap b o=some v) :
  ∃ K',cm K K'/\dc β (eK β i (.gr x (rows++news).length))/\Inv B K' (eK β i (.gr x (rows++news).length)) (Γ.set i (.vec E k fz (rows++news))) w':=by
 obtain ⟨rS,Zv,h1,h2,h3,h4,h5,h6⟩:=h.ob i _ hi;rw [hb] at h1;cases h1;clear h2 h3
 have hlen:news.length≠0:=fun h=>bO (eq_nil_of_length_eq_zero h)
 have hle:dc β (eK β i (.gr x (rows++news).length)):=gk (by rw [hb];exact ⟨x,_,rfl,by simp,fun he=>by rw [List.length_append] at he;omega⟩)
 have wv:∀ b,h0.ownBlock=some b->(β i).blk=some b:=fun b ba=>by rw [hb];exact ba
 have H2:rows.flatten.length=rows.length * k:=by rw [<-qY.2.1];exact qY.1.1
 have YK:fz * k<=rows.flatten.length:=by rw [H2];exact Nat.mul_le_mul_right k h6
 have BL:cm K (zq K x (fz * k) rows.flatten):=fun b o g hg=>by
  by_cases hc:x.ownBlock=some b/\o < fz * k
  ·rw [xq hc.1 hc.2]
   rcases hf b hc.1 with h7 | h7
   ·have OJ:o < rows.flatten.length:=by omega
    have:=(h5 b h7).2 o rows.flatten[o] hc.2 (by simp [OJ]);rw [this] at hg;cases hg;simp [OJ]
   ·have:=h.fz.lt hg;omega
  ·rw [vh hc];exact hg
 refine ⟨zq K x (fz * k) rows.flatten,BL,hle,h.ext.step hx (fun j hj=>(h.own i j (wv j hj)).symm),h.kle.trans BL,h.ble.trans hle,h.loc,fun b o g hg=>?_,fun j y hj=>?_,fun j hj=>?_,fun j j' b hj ll=>?_,fun j b hj=>?_,fun b o g hg=>?_,h.tab.step hx (fun j hj=>⟨i,wv j hj⟩) BL (fun j b2 hi=>by rcases oB hi with h1 | h1;(· exact (hf b2 h1).imp (fun h2=>⟨i,wv b2 h2⟩) id);exact .inl ⟨j,h1⟩)⟩
 ·rcases zr hg with ⟨ba,ya,hg⟩ | ⟨hc,hg⟩
  ·have wH:g.pc=true:=by
    obtain ⟨r,gg,dd⟩:=List.mem_flatten.1 (mem_of_getElem? hg);exact (h4 r gg).2 g dd
   obtain ⟨v,hv,eG⟩:=qY.2.at hg;obtain ⟨b2,c,qC,_,_,jh⟩:=ho.cells.2 (by intro h0;have:xs=[]:=(List.append_eq_nil_iff.1 h0).1;rw [this] at hv;simp at hv)
   have ey:b2=b:=by rw [qC] at ba;cases ba;rfl
   subst ey;have aq:o < xs.length:=(List.getElem?_eq_some_iff.1 hv).1;refine ⟨wH,v,?_,(eG.mono BL hle).pc wH⟩;rw [<-eN];exact jh o v (by rw [getElem?_append_left aq];exact hv)
  ·obtain ⟨hp,v,hv,eG⟩:=h.fz b o g hg;refine ⟨hp,v,?_,eG.mono BL (dc.refl _)⟩
   by_cases h7:h0.ownBlock=some b
   ·by_cases h8:o < fz * k
    ·exact kE b h7 o v h8 hv
    ·rw [(h5 b h7).1 o (by omega)] at hg;cases hg
   ·exact hx.c hv h7
 ·rw [getElem?_set] at hj;split at hj
  ·rename_i fU;split at hj
   ·cases hj;subst fU
    refine ⟨x,xs++ns,bm,by simpa using ho,?_,?_,fun b ba=>⟨fun o ya=>?_,fun o g ya hg=>?_⟩,by simp;omega⟩
    ·rw [List.flatten_append];exact (qY.2.mono BL hle).app (hr.mono BL hle)
    ·intro r Kx
     rcases List.mem_append.1 Kx with h7 | h7
     ·exact h4 r h7
     ·exact hk r h7
    ·rw [vh (by omega)]
     rcases hf b ba with h7 | h7
     ·exact (h5 b h7).1 o ya
     ·cases kP:K b o with
      | none=>rfl
      | some g=>have:=h.fz.lt kP;omega
    ·rw [xq ba ya];rw [List.flatten_append,getElem?_append_left (by omega)] at hg;exact hg
   ·cases hj
  ·rename_i fU;refine (h.ob j y hj).ext hx (fun b ba he=>?_) BL hle (bR (fun he=>fU he.symm)) (fun b o ba kP=>?_)
   ·exact fU (h.dis i j b (wv b he) ba)
   ·rw [vh];exact kP;rintro ⟨h7,_⟩
    rcases hf b h7 with h8 | h8
    ·exact fU (h.dis i j b (wv b h8) ba)
    ·have:=h.lt ba;omega
 ·have ll:Γ.length<=j:=by simpa using hj
  have:i < Γ.length:=(List.getElem?_eq_some_iff.1 hi).1;rw [bR (by omega)];exact h.out j ll
 ·have key:∀ j b,j≠i->(β j).blk=some b->x.ownBlock≠some b:=fun j b Dx ba he=>by
   rcases hf b he with h7 | h7
   ·exact Dx (h.dis j i b ba (wv b h7))
   ·have:=h.lt ba;omega
  by_cases h1:j=i <;> by_cases h2:j'=i
  ·omega
  ·subst h1;rw [bm] at hj;rw [bR h2] at ll;exact absurd hj (key j' b h2 ll)
  ·subst h2;rw [bm] at ll;rw [bR h1] at hj;exact absurd ll (key j b h1 hj)
  ·rw [bR h1] at hj;rw [bR h2] at ll;exact h.dis j j' b hj ll
 ·by_cases h1:j=i
  ·subst h1;rw [bm] at hj
   rcases hf b hj with h7 | h7
   ·exact h.own j b (wv b h7)
   ·exact .inr (Nat.le_trans h.ext.size h7)
  ·rw [bR h1] at hj;exact h.own j b hj
 ·rcases zr hg with ⟨ba,_,_⟩ | ⟨_,hg⟩
  ·rcases hf b ba with h7 | h7
   ·exact .inr (h.own i b (wv b h7))
   ·exact .inr (.inr (Nat.le_trans h.ext.size h7))
  ·exact h.kn b o g hg
theorem Inv.gD {i E k fz:Nat} {rows:List (List GV)} (h:Inv B K β Γ w) (hi:Γ[i]?=some (.vec E k fz rows)) :
  ∃ K',cm K K'/\(∀ x b,β i=.gr x rows.length->x.ownBlock=some b->∀ (o:Nat) g,rows.flatten[o]?=some g->K' b o=some g)/\Inv B K' β (Γ.set i (.vec E k rows.length rows)) w:=by
 obtain ⟨x,xs,h1,h2,h3,h4,h5,h6⟩:=h.ob i _ hi
 have H2:rows.flatten.length=rows.length * k:=by rw [<-h3.1];exact h2.1
 have ed:∀ b,x.ownBlock=some b->(β i).blk=some b:=fun b hb=>by rw [h1];exact hb
 have hle:cm K (zq K x (rows.length * k) rows.flatten):=fun b o g hg=>by
  by_cases hc:x.ownBlock=some b/\o < rows.length * k
  ·rw [xq hc.1 hc.2]
   have aq:o < rows.flatten.length:=by omega
   by_cases ho:o < fz * k
   ·have:=(h5 b hc.1).2 o rows.flatten[o] ho (by simp [aq]);rw [this] at hg;cases hg;simp [aq]
   ·rw [(h5 b hc.1).1 o (by omega)] at hg;cases hg
  ·rw [vh hc];exact hg
 refine ⟨zq K x (rows.length * k) rows.flatten,hle,fun x' b Gv hb o g hg=>?_,h.ext,h.kle.trans hle,h.ble,h.loc,fun b o g hg=>?_,fun j y hj=>?_,fun j hj=>h.out j (by simpa using hj),h.dis,h.own,fun b o g hg=>?_,h.tab.step (S:=gX) (Ext.refl w) (fun _ h=>h.elim) hle (fun i b2 h=>.inl ⟨i,h⟩)⟩
 ·rw [h1] at Gv;cases Gv;rw [xq hb (by rw [<-H2];exact (List.getElem?_eq_some_iff.1 hg).1)];exact hg
 ·rcases zr hg with ⟨ba,ya,hg⟩ | ⟨hc,hg⟩
  ·have wH:g.pc=true:=by
    obtain ⟨r,gg,dd⟩:=List.mem_flatten.1 (mem_of_getElem? hg);exact (h4 r gg).2 g dd
   obtain ⟨v,hv,eG⟩:=h3.at hg;obtain ⟨b2,c,qC,_,_,jh⟩:=h2.cells.2 (by intro h0;rw [h0] at hv;simp at hv)
   have ey:b2=b:=by rw [qC] at ba;cases ba;rfl
   subst ey;exact ⟨wH,v,by rw [<-eN];exact jh o v hv,(eG.mono hle (dc.refl β)).pc wH⟩
  ·obtain ⟨h7,v,h8,h9⟩:=h.fz b o g hg;exact ⟨h7,v,h8,h9.mono hle (dc.refl _)⟩
 ·rw [getElem?_set] at hj;split at hj
  ·rename_i fU;split at hj
   ·cases hj;subst fU
    refine ⟨x,xs,h1,h2,h3.mono hle (dc.refl β),h4,fun b hb=>⟨fun o ho=>?_,fun o g ho hg=>?_⟩,Nat.le_refl _⟩
    ·rw [vh (by omega)];exact (h5 b hb).1 o (Nat.le_trans (Nat.mul_le_mul_right k h6) ho)
    ·rw [xq hb ho];exact hg
   ·cases hj
  ·rename_i fU;refine (h.ob j y hj).ext (Ext.refl w) (fun _ _ h=>h) hle (dc.refl β) rfl (fun b o ba kP=>?_) (S:=gX);rw [vh];exact kP;rintro ⟨h7,_⟩;exact fU (h.dis i j b (ed b h7) ba)
 ·rcases zr hg with ⟨ba,_,_⟩ | ⟨_,hg⟩
  ·exact .inr (h.own i b (ed b ba))
  ·exact h.kn b o g hg
end
end Go.Xg
namespace Go.Xg
open Go.RowKit Go.Xw
mutual
def dr (f:Nat->Nat):GV->GV
 | .v x=>.v x
 | .Zy=>.Zy
 | .agg cs=>.agg (kU f cs)
 | .tup cs=>.tup (kU f cs)
 | .sl k rows=>.sl k rows
 | .box cs o=>.box cs o
 | .loc i o=>.loc (f i) o
 | .vec i n=>.vec (f i) n
 | .vp i n k idx off=>.vp (f i) n k idx off
 | .arr i o n=>.arr (f i) o n
 | .fn g a c=>.fn g (kU f a) (kU f c)
def kU (f:Nat->Nat):List GV->List GV
 | []=>[]
 | g::gs=>dr f g::kU f gs
end
theorem jo (f:Nat->Nat) (gs:List GV):kU f gs=gs.map (dr f):=by
 induction gs with
 | nil=>rfl
 | cons g gs ih=>simp [kU,ih]
theorem Rel.Ai {K:Fz} {β:Bt} {f:Nat->Nat} {x:Value} {g:GV} (h:Rel K (fun j=>β (f j)) x g):Rel K β x (dr f g):=by
 induction h with
 | v x=>exact .v x
 | Zy x=>exact .Zy x
 | agg vs cs hl h ih =>
  rw [dr,jo]
  refine .agg vs _ (by simpa using hl) fun i v g h1 h2=>?_
  rw [getElem?_map] at h2
  cases hc:cs[i]? with
  | none=>rw [hc] at h2;cases h2
  | some c=>rw [hc] at h2;cases h2;exact ih i v c h1 hc
 | tup vs cs hl h ih =>
  rw [dr,jo]
  refine .tup vs _ (by simpa using hl) fun i v g h1 h2=>?_
  rw [getElem?_map] at h2
  cases hc:cs[i]? with
  | none=>rw [hc] at h2;cases h2
  | some c=>rw [hc] at h2;cases h2;exact ih i v c h1 hc
 | sl0 a c k=>exact .sl0 a c k
 | sl b o c k rows h hc=>exact .sl b o c k rows h hc
 | box b o' o cs h=>exact .box b o' o cs h
 | loc i o b h=>exact .loc _ o b h
 | vec i n a c h=>exact .vec _ n a c h
 | vp i n k idx off x h=>exact .vp _ n k idx off x h
 | arr i o n b c h=>exact .arr _ o n b c h
 | fn g xs ys first cap hl iG h h' ih ih' =>
  rw [dr,jo,jo];refine .fn g xs ys _ _ (by simpa using hl) (by simpa using iG) (fun i v g h1 h2=>?_) (fun i v g h1 h2=>?_)
  ·rw [getElem?_map] at h2
   cases hc:first[i]? with
   | none=>rw [hc] at h2;cases h2
   | some c=>rw [hc] at h2;cases h2;exact ih i v c h1 hc
  ·rw [getElem?_map] at h2
   cases hc:cap[i]? with
   | none=>rw [hc] at h2;cases h2
   | some c=>rw [hc] at h2;cases h2;exact ih' i v c h1 hc
theorem Rel.z6 {K:Fz} {β:Bt} {f:Nat->Nat} {x:Value} {g:GV} (h:Rel K β x (dr f g)):Rel K (fun j=>β (f j)) x g:=by
 generalize he:dr f g=g' at h
 induction h generalizing g with
 | v x =>
  cases g <;> simp only [dr] at he <;> first | (cases he;done) | skip
  cases he;exact .v x
 | Zy x =>
  cases g <;> simp only [dr] at he <;> first | (cases he;done) | skip
  exact .Zy x
 | agg vs cs hl h ih =>
  cases g <;> simp only [dr] at he <;> first | (cases he;done) | skip
  rename_i ds;rw [jo] at he;cases he
  exact .agg vs ds (by simpa using hl) fun i v g h1 h2=>ih i v (dr f g) h1 (by rw [getElem?_map,h2];rfl) rfl
 | tup vs cs hl h ih =>
  cases g <;> simp only [dr] at he <;> first | (cases he;done) | skip
  rename_i ds;rw [jo] at he;cases he
  exact .tup vs ds (by simpa using hl) fun i v g h1 h2=>ih i v (dr f g) h1 (by rw [getElem?_map,h2];rfl) rfl
 | sl0 a c k =>
  cases g <;> simp only [dr] at he <;> first | (cases he;done) | skip
  cases he;exact .sl0 a c _
 | sl b o c k rows h hc =>
  cases g <;> simp only [dr] at he <;> first | (cases he;done) | skip
  cases he;exact .sl b o c k rows h hc
 | box b o' o cs h =>
  cases g <;> simp only [dr] at he <;> first | (cases he;done) | skip
  cases he;exact .box b o' o cs h
 | loc i o b h =>
  cases g <;> simp only [dr] at he <;> first | (cases he;done) | skip
  cases he;exact .loc _ o b h
 | vec i n a c h =>
  cases g <;> simp only [dr] at he <;> first | (cases he;done) | skip
  cases he;exact .vec _ n a c h
 | vp i n k idx off x h =>
  cases g <;> simp only [dr] at he <;> first | (cases he;done) | skip
  cases he;exact .vp _ n k idx off x h
 | arr i o n b c h =>
  cases g <;> simp only [dr] at he <;> first | (cases he;done) | skip
  cases he;exact .arr _ o n b c h
 | fn g' xs ys first cap hl iG h h' ih ih' =>
  cases g <;> simp only [dr] at he <;> first | (cases he;done) | skip
  rename_i f' ds es;rw [jo,jo] at he;cases he;exact .fn _ xs ys ds es (by simpa using hl) (by simpa using iG) (fun i v g h1 h2=>ih i v (dr f g) h1 (by rw [getElem?_map,h2];rfl) rfl)
   (fun i v g h1 h2=>ih' i v (dr f g) h1 (by rw [getElem?_map,h2];rfl) rfl)
mutual
def GV.ok (p:Nat->Bool):GV->Bool
 | .loc i _=>p i
 | .vec i _=>p i
 | .vp i _ _ _ _=>p i
 | .arr i _ _=>p i
 | .agg cs=>Cc p cs
 | .tup cs=>Cc p cs
 | .fn _ a c=>Cc p a&&Cc p c
 | .v _=>true
 | .Zy=>true
 | .sl _ _=>true
 | .box _ _=>true
def Cc (p:Nat->Bool):List GV->Bool
 | []=>true
 | g::gs=>GV.ok p g&&Cc p gs
end
def below (n:Nat):Nat->Bool:=fun i=>Nat.blt i n
def other (n:Nat):Nat->Bool:=fun i=>!Nat.beq i n
abbrev GV.lt (n:Nat) (g:GV):Bool:=g.ok (below n)
theorem uI {p:Nat->Bool} {gs:List GV} (h:Cc p gs=true) {g:GV} (hg:g∈gs):g.ok p=true:=by
 induction gs with
 | nil=>cases hg
 | cons x gs ih =>
  simp only [Cc,Bool.and_eq_true] at h
  rcases List.mem_cons.1 hg with rfl | hg
  ·exact h.1
  ·exact ih h.2 hg
theorem Rel.res {K:Fz} {β:Bt} {p:Nat->Bool} {x:Value} {g:GV} (h:Rel K β x g) (hl:g.ok p=true):Rel K (gh p β) x g:=by
 induction h with
 | v x=>exact .v x
 | Zy x=>exact .Zy x
 | agg vs cs ov h ih=>simp only [GV.ok] at hl;exact .agg vs cs ov fun i v g h1 h2=>ih i v g h1 h2 (uI hl (mem_of_getElem? h2))
 | tup vs cs ov h ih=>simp only [GV.ok] at hl;exact .tup vs cs ov fun i v g h1 h2=>ih i v g h1 h2 (uI hl (mem_of_getElem? h2))
 | sl0 a c k=>exact .sl0 a c k
 | sl b o c k rows h hc=>exact .sl b o c k rows h hc
 | box b o' o cs h=>exact .box b o' o cs h
 | loc i o b h=>simp only [GV.ok] at hl;exact .loc _ o b (by rw [iq hl,h])
 | vec i m a c h=>simp only [GV.ok] at hl;exact .vec _ m a c (by rw [iq hl];exact h)
 | vp i m k idx off x h=>simp only [GV.ok] at hl;exact .vp _ m k idx off x (by rw [iq hl];exact h)
 | arr i o m b c h=>simp only [GV.ok] at hl;exact .arr _ o m b c (by rw [iq hl,h])
 | fn g' xs ys first cap ov iG h h' ih ih' =>
  simp only [GV.ok,Bool.and_eq_true] at hl
  exact .fn _ xs ys first cap ov iG (fun i v g h1 h2=>ih i v g h1 h2 (uI hl.1 (mem_of_getElem? h2))) (fun i v g h1 h2=>ih' i v g h1 h2 (uI hl.2 (mem_of_getElem? h2)))
def Ob.ok (p:Nat->Bool):Ob->Bool
 | .box _ cs=>Cc p cs
 | _=>true
def Ob.dr (f:Nat->Nat):Ob->Ob
 | .box E cs=>.box E (kU f cs)
 | x=>x
def B7 (p:Nat->Bool):List Ob->Bool
 | []=>true
 | x::r=>Ob.ok p x&&B7 p r
abbrev zZ (n:Nat) (Γ:List Ob):Bool:=B7 (below n) Γ
theorem G4 {p:Nat->Bool} {gs:List Ob} (h:B7 p gs=true) {g:Ob} (hg:g∈gs):g.ok p=true:=by
 induction gs with
 | nil=>cases hg
 | cons x gs ih =>
  simp only [B7,Bool.and_eq_true] at h
  rcases List.mem_cons.1 hg with rfl | hg
  ·exact h.1
  ·exact ih h.2 hg
def IJ (p:Nat->Bool):List GV->List GV
 | []=>[]
 | g::gs=>(match GV.ok p g with | true=>g | false=>.Zy)::IJ p gs
abbrev Vt (n:Nat) (fr:List GV):List GV:=IJ (below n) fr
theorem FR.res {K:Fz} {β:Bt} {p:Nat->Bool} {fr:List GV} {l:List Value} (h:FR K β fr l):FR K (gh p β) (IJ p fr) l:=by
 induction h with
 | nil=>exact .nil
 | cons h t ih =>
  rw [IJ];split
  ·rename_i hl;exact .cons (h.res hl) ih
  ·exact .cons (.Zy _) ih
theorem jC.res {K:Fz} {β:Bt} {w:World} {p:Nat->Bool} {i:Nat} {x:Ob} (h:jC K β w i x) (hi:p i=true) (hx:x.ok p=true):jC K (gh p β) w i x:=by
 cases x with
 | gone=>simp only [jC] at h |-;rw [iq hi,h]
 | box E cs =>
  obtain ⟨b,vs,h1,h2,h3,h4⟩:=h;exact ⟨b,vs,by rw [iq hi,h1],h2,⟨h3.1,fun i v g h5 h6=>(h3.2 i v g h5 h6).res (uI hx (mem_of_getElem? h6))⟩,h4⟩
 | vec E k fz rows =>
  obtain ⟨h0,xs,h1,h2,h3,h4,h5⟩:=h;refine ⟨h0,xs,by rw [iq hi,h1],h2,⟨h3.1,fun i v g h6 h7=>(h3.2 i v g h6 h7).pc ?_⟩,h4,h5⟩;obtain ⟨r,gg,dd⟩:=List.mem_flatten.1 (mem_of_getElem? h7);exact (h4 r gg).2 g dd
 | vech E k rows x =>
  obtain ⟨xs,h1,h2,h3,h4,h5⟩:=h;refine ⟨xs,by rw [iq hi,h1],h2,⟨h3.1,fun i v g h6 h7=>(h3.2 i v g h6 h7).pc ?_⟩,h4,h5⟩;obtain ⟨r,gg,dd⟩:=List.mem_flatten.1 (mem_of_getElem? h7);exact (h4 r gg).2 g dd
 | lost=>exact fun b hb=>h b (by rw [iq hi] at hb;exact hb)
section
variable {B:Bs} {K:Fz} {β:Bt} {Γ:List Ob} {w:World}
theorem Ax {n i:Nat} (h:i < n):below n i=true:=by simpa [below] using h
theorem Pk {n i:Nat} (h:n<=i):below n i=false:=by
 cases hb:below n i with
 | false=>rfl
 | true=>simp [below] at hb;omega
theorem Inv.cut {n:Nat} (h:Inv B K β Γ w) (hm:B.m<=n) (hl:zZ n (Γ.take n)=true):Inv B K (gh (below n) β) (Γ.take n) w:=by
 have dH:∀ i b,(gh (below n) β i).blk=some b->(β i).blk=some b:=fun i b hi=>by
  simp only [gh] at hi;split at hi
  ·exact hi
  ·cases hi
 refine ⟨h.ext,h.kle,fun i=>?_,h.loc,h.fz,fun i x hi=>?_,fun i hi=>?_,fun i j b hi hj=>h.dis i j b (dH i b hi) (dH j b hj),fun i b hi=>h.own i b (dH i b hi),h.kn,h.tab.step (S:=gX) (Ext.refl w) (fun _ h=>h.elim) (cm.refl K) (fun i b2 h2=>.inl ⟨i,dH i b2 h2⟩)⟩
 ·by_cases gz:i < n
  ·rw [iq (Ax gz)];exact h.ble i
  ·rw [h.loc i (by omega)];trivial
 ·have aq:=G4 hl (mem_of_getElem? hi);rw [getElem?_take] at hi;split at hi
  ·rename_i gz;exact (h.ob i x hi).res (Ax gz) aq
  ·cases hi
 ·by_cases gz:i < n
  ·rw [iq (Ax gz)];exact h.out i (by simp at hi;omega)
  ·exact Ba (Pk (by omega))
theorem G5 {i:Nat}:other i i=false:=by simp [other]
theorem uJ {i j:Nat} (h:j≠i):other i j=true:=by
 cases hb:Nat.beq j i with
 | false=>simp [other,hb]
 | true=>exact absurd (Nat.eq_of_beq_eq_true hb) h
theorem Inv.freeze {i:Nat} {E:TypeId} {cs:List GV} (h:Inv B K β Γ w) (hi:Γ[i]?=some (.box E cs)) (hp:∀ g∈cs,g.pc=true) (bV:B7 (other i) (Γ.set i .gone)=true) (hm:B.m<=i) :
  ∃ K',cm K K'/\(∀ b,β i=.fix b->∀ (j:Nat) g,cs[j]?=some g->K' b j=some g)/\Inv B K' (gh (other i) β) (Γ.set i .gone) w:=by
 obtain ⟨b,vs,h1,h2,h3,h4⟩:=h.ob i _ hi
 have ed:(β i).blk=some b:=by rw [h1];rfl
 have hle:cm K (kl K b cs):=fun b' o g hg=>by
  by_cases hb:b'=b
  ·subst hb;rw [h4] at hg;cases hg
  ·simp [kl,hb,hg]
 have dH:∀ j b',(gh (other i) β j).blk=some b'->j≠i/\(β j).blk=some b':=fun j b' hj=>by
  by_cases hji:j=i
  ·subst hji;rw [Ba G5] at hj;cases hj
  ·rw [iq (uJ hji)] at hj;exact ⟨hji,hj⟩
 refine ⟨kl K b cs,hle,fun b' ba j g hg=>?_,h.ext,h.kle.trans hle,fun j=>?_,h.loc,fun b' o g hg=>?_,fun j x hj=>?_,fun j hj=>?_,fun j j' b' hj ll=>?_,fun j b' hj=>?_,fun b' o g hg=>?_,h.tab.step (S:=gX) (Ext.refl w) (fun _ h=>h.elim) hle (fun i b2 h2=>.inl ⟨i,(dH i b2 h2).2⟩)⟩
 ·rw [h1] at ba;cases ba;exact tW hg
 ·by_cases hji:j=i
  ·subst hji;rw [h.loc j hm];trivial
  ·rw [iq (uJ hji)];exact h.ble j
 ·by_cases hb:b'=b
  ·subst hb;simp [kl] at hg;obtain ⟨v,hv,eG⟩:=h3.at hg;have wH:=hp g (mem_of_getElem? hg);exact ⟨wH,v,u9 h2 (by simpa using hv),(eG.mono hle (dc.refl β)).pc wH⟩
  ·have kM:K b' o=some g:=by simpa [kl,hb] using hg
   obtain ⟨h5,v,h6,h7⟩:=h.fz b' o g kM;exact ⟨h5,v,h6,h7.mono hle (dc.refl _)⟩
 ·have eQ:=G4 bV (mem_of_getElem? hj);rw [getElem?_set] at hj;split at hj
  ·rename_i fU;split at hj
   ·cases hj;subst fU;exact Ba G5
   ·cases hj
  ·rename_i fU;refine jC.res ?_ (uJ (fun he=>fU he.symm)) eQ;refine (h.ob j x hj).ext (Ext.refl w) (fun _ _ h=>h) hle (dc.refl β) rfl (fun b' o ba hk=>?_) (S:=gX)
   have:b'≠b:=fun he=>by subst he;exact fU (h.dis i j _ ed ba)
   simp [kl,this,hk]
 ·have:i < Γ.length:=(List.getElem?_eq_some_iff.1 hi).1
  have ll:Γ.length<=j:=by simpa using hj
  rw [iq (uJ (by omega))];exact h.out j ll
 ·exact h.dis j j' b' (dH j b' hj).2 (dH j' b' ll).2
 ·exact h.own j b' (dH j b' hj).2
 ·by_cases hb:b'=b
  ·subst hb;exact .inr (h.own i _ ed)
  ·exact h.kn b' o g (by simpa [kl,hb] using hg)
end
abbrev dQ:=Exit->List GV->List Ob->Prop
def gl (B:Bs) (Q:dQ):kK:=fun e l w=>∃ K β fr Γ,Inv B K β Γ w/\FR K β fr l/\Q e fr Γ
def GW (P:Program) (m:Nat) (c:Code) (Q:dQ) (fr:List GV) (Γ:List Ob):Prop :=
 ∀ B K β w l,B.m=m->Inv B K β Γ w->FR K β fr l->W P c (gl B Q) l w
def GL (P:Program) (m:Nat) (ops:Array Oper) (Q:dQ) (rest:List Oper) (fr:List GV) (Γ:List Ob):Prop :=
 ∀ B K β w l,B.m=m->Inv B K β Γ w->FR K β fr l->WL P ops (gl B Q) rest l w
def aS (next:List GV->List Ob->Prop) (Q:dQ):dQ
 | .normal,fr,Γ=>next fr Γ
 | e,fr,Γ=>Q e fr Γ
def aW (id:Nat) (Q:dQ):dQ
 | .exit zN,fr,Γ=>if zN=id then Q .normal fr Γ else Q (.exit zN) fr Γ
 | e,fr,Γ=>Q e fr Γ
def Wk (m:Nat) (fr:List GV) (Γ:List Ob) (bQ:List GV) (aH:List Ob):Prop :=
 ∀ B K β w l,B.m=m->Inv B K β Γ w->FR K β fr l->∃ K' bP,Inv B K' bP aH w/\FR K' bP bQ l
section
variable {P:Program} {m:Nat} {Q:dQ} {fr:List GV} {Γ:List Ob} {ops:Array Oper} {rest:List Oper}
theorem Wk.trans {bQ J2:List GV} {aH Cv:List Ob} (h:Wk m fr Γ bQ aH) (k:Wk m bQ aH J2 Cv):Wk m fr Γ J2 Cv:=fun B K β w l hm hI hF=>by
 obtain ⟨K',bP,be,uk⟩:=h B K β w l hm hI hF;exact k B K' bP w l hm be uk
theorem GW.wk {c:Code} {bQ:List GV} {aH:List Ob} (h:Wk m fr Γ bQ aH) (k:GW P m c Q bQ aH):GW P m c Q fr Γ:=fun B K β w l hm hI hF=>by
 obtain ⟨K',bP,be,uk⟩:=h B K β w l hm hI hF;exact k B K' bP w l hm be uk
theorem GL.wk {bQ:List GV} {aH:List Ob} (h:Wk m fr Γ bQ aH) (k:GL P m ops Q rest bQ aH):GL P m ops Q rest fr Γ:=fun B K β w l hm hI hF=>by
 obtain ⟨K',bP,be,uk⟩:=h B K β w l hm hI hF;exact k B K' bP w l hm be uk
theorem Wk.cut {n:Nat} (hm:m<=n) (hl:zZ n (Γ.take n)=true):Wk m fr Γ (Vt n fr) (Γ.take n):=fun B K β w l hB hI hF =>
 ⟨K,gh (below n) β,hI.cut (by omega) hl,hF.res⟩
inductive rH:List GV->List GV->Prop
 | nil:rH [] []
 | Zy {f:GV} {fs gs:List GV} (h:rH fs gs):rH (f::fs) (.Zy::gs)
 | eq {f g:GV} {fs gs:List GV} (he:f=g) (h:rH fs gs):rH (f::fs) (g::gs)
theorem FR.Wx {K:Fz} {β:Bt} {l:List Value} {fr bQ:List GV} (h:rH fr bQ) (k:FR K β fr l):FR K β bQ l:=by
 induction h generalizing l with
 | nil=>exact k
 | Zy h ih=>cases k with | cons k1 k2=>exact .cons (.Zy _) (ih k2)
 | eq he h ih=>subst he;cases k with | cons k1 k2=>exact .cons k1 (ih k2)
theorem Wk.ax {bQ:List GV} (h:rH fr bQ):Wk m fr Γ bQ Γ:=fun B K β w l _ hI hF=>⟨K,β,hI,hF.Wx h⟩
theorem GW.seq {x y:Code} (h:GW P m x (aS (GW P m y Q) Q) fr Γ):GW P m (.seq x y) Q fr Γ:=fun B K β w l hm hI hF=>by
 refine W.seq (W.mono (h B K β w l hm hI hF) ?_);rintro e l w ⟨K,β,fr,Γ,hI,hF,hq⟩
 cases e with
 | normal=>exact hq B K β w l hm hI hF
 | _=>exact ⟨K,β,fr,Γ,hI,hF,hq⟩
theorem GW.skip (h:Q .normal fr Γ):GW P m .skip Q fr Γ:=fun B K β w l hm hI hF=>W.skip ⟨K,β,fr,Γ,hI,hF,h⟩
theorem GW.exit {n:Nat} (h:Q (.exit n) fr Γ):GW P m (.exit n) Q fr Γ:=fun B K β w l hm hI hF=>W.exit ⟨K,β,fr,Γ,hI,hF,h⟩
theorem GW.ret (h:Q .ret fr Γ):GW P m .ret Q fr Γ:=fun B K β w l hm hI hF=>W.ret ⟨K,β,fr,Γ,hI,hF,h⟩
theorem GW.block {id:Nat} {c:Code} (h:GW P m c (aW id Q) fr Γ):GW P m (.block id c) Q fr Γ:=fun B K β w l hm hI hF=>by
 refine W.block (W.mono (h B K β w l hm hI hF) ?_);rintro e l w ⟨K,β,fr,Γ,hI,hF,hq⟩
 cases e with
 | exit zN =>
  simp only [aW] at hq;simp only [Sh];split <;> rename_i hh
  ·rw [if_pos hh] at hq;exact ⟨K,β,fr,Γ,hI,hF,hq⟩
  ·rw [if_neg hh] at hq;exact ⟨K,β,fr,Γ,hI,hF,hq⟩
 | _=>exact ⟨K,β,fr,Γ,hI,hF,hq⟩
theorem Rel.eT {K:Fz} {β:Bt} {x a:Value} (h:Rel K β x (.v a)):x=a:=by cases h;rfl
theorem FR.gy {K:Fz} {β:Bt} {l:List Value} {x:Operand} {a:Value} (h:FR K β fr l) (hx:aP fr x=.v a):Xw.ev l x=a:=Rel.eT (by rw [<-hx];exact h.ev x)
theorem GW.cond {c:Operand} {x y:Code} {t:Bool} (hc:aP fr c=.v (.bool t)) (ht:t=true->GW P m x Q fr Γ) (hf:t=false->GW P m y Q fr Γ):GW P m (.cond c x y) Q fr Γ:=fun B K β w l hm hI hF =>
 W.cond (hF.gy hc) (fun h=>ht h B K β w l hm hI hF) (fun h=>hf h B K β w l hm hI hF)
theorem Oc {c:Operand} {x y:Code} {t:Bool} (hc:aP fr c=.v (.bool t)) (ht:t=true) (h:GW P m x Q fr Γ):GW P m (.cond c x y) Q fr Γ:=GW.cond hc (fun _=>h) (fun h2=>by rw [ht] at h2;cases h2)
theorem Oa {c:Operand} {x y:Code} {t:Bool} (hc:aP fr c=.v (.bool t)) (ht:t=false) (h:GW P m y Q fr Γ):GW P m (.cond c x y) Q fr Γ:=GW.cond hc (fun h2=>by rw [ht] at h2;cases h2) (fun _=>h)
theorem GW.mono {c:Code} {Q':dQ} (h:GW P m c Q fr Γ) (hq:∀ e fr Γ,Q e fr Γ->Q' e fr Γ):GW P m c Q' fr Γ:=fun B K β w l hm hI hF =>
 W.mono (h B K β w l hm hI hF) fun e l w ⟨K,β,fr,Γ,hI,hF,q⟩=>⟨K,β,fr,Γ,hI,hF,hq _ _ _ q⟩
def xO (m:Nat) (K:List GV->List Ob->Prop) (fr:List GV) (Γ:List Ob):Prop:=∃ bQ aH,Wk m fr Γ bQ aH/\K bQ aH
theorem GW.loop {c:Code} {α:Type} (μ:α->Nat) (I:α->List GV->List Ob->Prop) (x:α) (h0:xO m (I x) fr Γ)
  (round:∀ x fr Γ,I x fr Γ->GW P m c (aS (fun bQ aH=>∃ y,xO m (I y) bQ aH/\μ y < μ x) Q) fr Γ):GW P m (.loop c) Q fr Γ:=fun B K β w l hm hI hF=>by
 obtain ⟨bQ,aH,hw,h0⟩:=h0;obtain ⟨K',bP,be,uk⟩:=hw B K β w l hm hI hF;refine W.loop μ (fun x l w=>∃ K β fr Γ,Inv B K β Γ w/\FR K β fr l/\I x fr Γ) x ⟨K',bP,bQ,aH,be,uk,h0⟩ ?_;rintro x l w ⟨K,β,fr,Γ,hI,hF,hi⟩;refine W.mono (round x fr Γ hi B K β w l hm hI hF) ?_;rintro e l w ⟨K,β,fr,Γ,hI,hF,hq⟩
 cases e with
 | normal =>
  obtain ⟨y,⟨bQ,aH,hw,hy⟩,aq⟩:=hq;obtain ⟨K',bP,be,uk⟩:=hw B K β w l hm hI hF;exact ⟨y,⟨K',bP,bQ,aH,be,uk,hy⟩,aq⟩
 | _=>exact ⟨K,β,fr,Γ,hI,hF,hq⟩
theorem GW.region {id:Nat} {ol:List Oper} (h:GL P m ol.toArray Q ol fr Γ):GW P m (.region id ol.toArray false) Q fr Γ:=fun B K β w l hm hI hF=>W.region (h B K β w l hm hI hF)
theorem GL.nil (h:Q .normal fr Γ):GL P m ops Q [] fr Γ:=fun B K β w l hm hI hF=>WL.nil ⟨K,β,fr,Γ,hI,hF,h⟩
end
section
variable {next:List GV->List Ob->Prop} {Q:dQ} {fr:List GV} {Γ:List Ob} {id zN:Nat}
theorem aL (h:next fr Γ):aS next Q .normal fr Γ:=h
theorem Dh (h:Q (.exit id) fr Γ):aS next Q (.exit id) fr Γ:=h
theorem cI (h:Q .ret fr Γ):aS next Q .ret fr Γ:=h
theorem bX (h:Q .normal fr Γ):aW id Q .normal fr Γ:=h
theorem cH (h:Q .ret fr Γ):aW id Q .ret fr Γ:=h
theorem Gg (h:Q .normal fr Γ):aW id Q (.exit id) fr Γ:=by simpa [aW] using h
end
def GC (P:Program) (f:FuncId) (gs:List GV) (Γ:List Ob) (R:GV->List Ob->Prop):Prop :=
 ∀ B K β w vs,B.m=Γ.length->Inv B K β Γ w->aV K β vs gs->nG P f vs w fun v w'=>∃ K' bP g aH,Inv B K' bP aH w'/\Rel K' bP v g/\R g aH
abbrev GF (P:Program) (f:FuncId) (gs:List GV) (Γ:List Ob) (g:GV) (aH:List Ob):Prop:=GC P f gs Γ fun x Δ=>x=g/\Δ=aH
def Dg:Nat->List GV
 | 0=>[]
 | n+1=>.v undef::Dg n
def wh:List GV->Nat->List GV
 | [],n=>Dg n
 | a::r,n=>a::wh r (n - 1)
theorem FR.Ed {K:Fz} {β:Bt} (n:Nat):FR K β (Dg n) (Ed n):=by
 induction n with
 | zero=>exact .nil
 | succ n ih=>exact .cons (.v _) ih
theorem FR.frame {K:Fz} {β:Bt} {vs:List Value} {gs:List GV} (h:aV K β vs gs) (n:Nat):FR K β (wh gs n) (frame vs n):=by
 induction gs generalizing vs n with
 | nil =>
  have:vs=[]:=eq_nil_of_length_eq_zero h.1;subst this;exact FR.Ed n
 | cons g gs ih =>
  cases vs with
  | nil=>have:=h.1;simp at this
  | cons v vs=>obtain ⟨h1,h2⟩:=h.nR;exact .cons h1 (ih h2 _)
def rR (P:Program) (fn:Func) (m:Nat) (R:GV->List Ob->Prop):dQ:=fun e fr Γ =>
 (e=.normal\/e=.ret)/\∀ B K β w l,B.m=m->Inv B K β Γ w->FR K β fr l->∃ v K' bP g aH,(results fn l.toArray).run P w=.ok v w/\Inv B K' bP aH w/\Rel K' bP v g/\R g aH
theorem GC.enter {P:Program} {f:FuncId} {fn:Func} {c:Code} {gs:List GV} {Γ:List Ob} {R:GV->List Ob->Prop} {n:Nat} {fr:List GV}
  (hf:P.funcs[f]?=some fn) (hn:fn.ntmps=n) (hb:fn.body=some c) (hl:wh gs n=fr) (h:GW P Γ.length c (rR P fn Γ.length R) fr Γ):GC P f gs Γ R:=fun B K β w vs hm hI hF=>by
 subst hl;refine nG.enter hf hn hb rfl (W.mono (h B K β w _ hm hI (FR.frame hF n)) ?_);rintro e l w ⟨K,β,fr,Γ,hI,hF,he,hq⟩;obtain ⟨v,K',bP,g,aH,h1,h2,h3,h4⟩:=hq B K β w l hm hI hF
 rcases he with rfl | rfl
 ·exact ⟨v,h1,K',bP,g,aH,h2,h3,h4⟩
 ·exact ⟨v,h1,K',bP,g,aH,h2,h3,h4⟩
section
variable {P:Program} {fn:Func} {m:Nat} {R:GV->List Ob->Prop} {fr:List GV} {Γ:List Ob} {e:Exit}
theorem Q5 {n:Nat} (hr:fn.results=#[]) (he:e=.normal\/e=.ret) (hm:m<=n) (hl:zZ n (Γ.take n)=true) (h:R (.tup []) (Γ.take n)):rR P fn m R e fr Γ :=
 ⟨he,fun B K β w l hB hI hF=>⟨.tuple #[],K,gh (below n) β,.tup [],Γ.take n,by rw [results_none hr],hI.cut (by omega) hl,.tup [] [] rfl (fun i v g h=>by simp at h),h⟩⟩
theorem pM {n:Nat} {t:Tmp} {g:GV} (hr:fn.results=#[.tmp t]) (he:e=.normal\/e=.ret) (hg:cj fr t=g) (hm:m<=n) (hl:zZ n (Γ.take n)=true) (jQ:g.lt n=true) (h:R g (Γ.take n)):rR P fn m R e fr Γ :=
 ⟨he,fun B K β w l hB hI hF=>⟨nth l t,K,gh (below n) β,g,Γ.take n,by rw [results_tmp hr,jm],hI.cut (by omega) hl,by rw [<-hg] at jQ |-;exact (hF.nth t).res jQ,h⟩⟩
theorem Q6 {n:Nat} {t u:Tmp} {g g':GV} (hr:fn.results=#[.tmp t,.tmp u]) (he:e=.normal\/e=.ret) (hg:cj fr t=g) (kM:cj fr u=g') (hm:m<=n) (hl:zZ n (Γ.take n)=true) (jQ:(GV.tup [g,g']).lt n=true) (h:R (.tup [g,g']) (Γ.take n)):rR P fn m R e fr Γ :=
 ⟨he,fun B K β w l hB hI hF=>⟨.tuple #[nth l t,nth l u],K,gh (below n) β,.tup [g,g'],Γ.take n,by rw [results_tmp2 hr,jm,jm],hI.cut (by omega) hl,by
  refine Rel.res ?_ jQ;subst hg kM;have hc:aV K β [nth l t,nth l u] [cj fr t,cj fr u]:=.cons (hF.nth t) (.cons (hF.nth u) .nil)
  exact .tup [nth l t,nth l u] _ hc.1 hc.2,h⟩⟩
theorem Q7 {n:Nat} {t u s:Tmp} {g g' g2:GV} (hr:fn.results=#[.tmp t,.tmp u,.tmp s]) (he:e=.normal\/e=.ret) (hg:cj fr t=g) (kM:cj fr u=g') (fG:cj fr s=g2) (hm:m<=n) (hl:zZ n (Γ.take n)=true) (jQ:(GV.tup [g,g',g2]).lt n=true)
  (h:R (.tup [g,g',g2]) (Γ.take n)):rR P fn m R e fr Γ :=
 ⟨he,fun B K β w l hB hI hF=>⟨.tuple #[nth l t,nth l u,nth l s],K,gh (below n) β,.tup [g,g',g2],Γ.take n,by
   rw [<-jm l t,<-jm l u,<-jm l s];simp [results,hr],hI.cut (by omega) hl,by
  refine Rel.res ?_ jQ;subst hg kM fG;have hc:aV K β [nth l t,nth l u,nth l s] [cj fr t,cj fr u,cj fr s]:=.cons (hF.nth t) (.cons (hF.nth u) (.cons (hF.nth s) .nil))
  exact .tup [nth l t,nth l u,nth l s] _ hc.1 hc.2,h⟩⟩
theorem Q8 {n:Nat} {t:Tmp} {T:TypeId} {k:Nat} [hT:Ty P T true k] {i:Nat} {E:TypeId} {cs:List GV} (hr:fn.results=#[.cell t T]) (he:e=.normal\/e=.ret) (hg:cj fr t=.loc i 0) (br:Γ[i]?=some (.box E cs)) (hk:cs.length=k)
  (hm:m<=n) (hl:zZ n (Γ.take n)=true) (jQ:(GV.agg cs).lt n=true) (h:R (.agg cs) (Γ.take n)):rR P fn m R e fr Γ :=
 ⟨he,fun B K β w l hB hI hF=>by
  obtain ⟨b,vs,h1,h2,h3,h4⟩:=hI.ob i _ br
  have hp:nth l t=.pointer (some ⟨b,0,none⟩):=by
   have:=hF.nth t;rw [hg] at this;generalize nth l t=v at this
   cases this with
   | loc _ _ b' ba=>rw [h1] at ba;cases ba;rfl
  have kB:l.toArray.getD t undef=.pointer (some ⟨b,0,none⟩):=by rw [jm,hp]
  have Dt:=mI (P:=P) (w:=w) (t:=T) (b:=b) (o:=0) (vs:=vs) (k:=k) (by rw [h3.1,hk]) (fun j v hj=>by
   rw [Nat.zero_add,cell_of_row w b j _ E (0,0) h2];simpa using hj)
  have yK:l[t]?.getD undef=.pointer (some ⟨b,0,none⟩):=by simpa using kB
  exact ⟨.agg vs.toArray,K,gh (below n) β,.agg cs,Γ.take n,by simp [results,hr,yK,asAddr,Dt],hI.cut (by omega) hl,Rel.res (.agg vs cs h3.1 h3.2) jQ,h⟩⟩
end
end Go.Xg
namespace Go.Xg
open Go.RowKit Go.Xw
def YG (P:Program) (op:Op) (fr:List GV) (Γ:List Ob) (g:GV):Prop :=
 ∀ B K β w l,Inv B K β Γ w->FR K β fr l->∃ v,dZ P l w op v/\Rel K β v g
section
variable {P:Program} {m:Nat} {Q:dQ} {fr:List GV} {Γ:List Ob} {ops:Array Oper} {rest:List Oper} {d:Option Tmp} {op:Op} {ty:TypeId} {pos:String} {af:Array Edge}
theorem GL.q {g:GV} (hy:YG P op fr Γ g) (h:GL P m ops Q rest (bh fr d g) Γ):GL P m ops Q (⟨d,op,ty,pos,af,none⟩::rest) fr Γ:=fun B K β w l hm hI hF=>by
 obtain ⟨v,hr,hv⟩:=hy B K β w l hI hF;exact WL.v hr (h B K β w _ hm hI (hF.put d hv))
theorem sK {bQ:List GV} {aH:List Ob} (h1:fr=bQ) (h2:Γ=aH) (h:GL P m ops Q rest bQ aH):GL P m ops Q rest fr Γ:=by subst h1;subst h2;exact h
theorem GN {bQ:List GV} (h1:fr=bQ) (h:GL P m ops Q rest bQ Γ):GL P m ops Q rest fr Γ:=by subst h1;exact h
theorem YG.v1 {x:Operand} {a v:Value} (hx:aP fr x=.v a) (h:∀ l w,ev l x=a->dZ P l w op v):YG P op fr Γ (.v v):=fun B K β w l hI hF=>⟨v,h l w (hF.gy hx),.v v⟩
theorem YG.v2 {x y:Operand} {a b v:Value} (hx:aP fr x=.v a) (hy:aP fr y=.v b) (h:∀ l w,ev l x=a->ev l y=b->dZ P l w op v):YG P op fr Γ (.v v):=fun B K β w l hI hF=>⟨v,h l w (hF.gy hx) (hF.gy hy),.v v⟩
theorem YG.mv {x:Operand}:YG P (.move x) fr Γ (aP fr x):=fun B K β w l hI hF=>⟨_,R.mv,hF.ev x⟩
theorem YG.sO {x:Operand}:YG P (.assign x) fr Γ (aP fr x):=fun B K β w l hI hF=>⟨_,R.sO,hF.ev x⟩
theorem YG.iL {fn:Fn} {first cap:List Operand}:YG P (.makeFunc fn first.toArray cap.toArray) fr Γ (.fn fn (first.map (aP fr)) (cap.map (aP fr))):=fun B K β w l hI hF =>
 ⟨_,R.iL,by
  have h1:=hF.args first
  have h2:=hF.args cap
  simpa using Rel.fn fn _ _ _ _ h1.1 h2.1 h1.2 h2.2⟩
def AP:GV->Value
 | .v x=>x
 | _=>.nilFunc
def Ra (ρ:Operand->Value) (op:Op):Option Value :=
 match op with
 | .binOp _ _ _ _ _=>go ρ op
 | .unOp _ _ _=>go ρ op
 | _=>none
theorem PL {K:Fz} {β:Bt} {x:Value} {g:GV} (h:Rel K β x g):AP g=x\/AP g=.nilFunc:=by
 cases h <;> first | exact .inl rfl | exact .inr rfl
theorem YG.go {v:Value} (h:Ra (fun x=>AP (aP fr x)) op=some v):YG P op fr Γ (.v v):=fun B K β w l hI hF=>by
 refine ⟨v,PI ?_,.v v⟩
 have key:∀ x,AP (aP fr x)=ev l x\/AP (aP fr x)=.nilFunc:=fun x=>PL (hF.ev x)
 unfold Ra at h;split at h
 ·rename_i o t x y t';simp only [Xw.go] at h |-
  rcases key x with hx | hx <;> rcases key y with hy | hy <;> rw [hx,hy] at h
  ·exact h
  ·cases hv:ev l x <;> rw [hv] at h <;> cases h
  ·cases h
  ·cases h
 ·rename_i o t x;simp only [Xw.go,vg] at h |-
  rcases key x with hx | hx <;> rw [hx] at h
  ·exact h
  ·cases o <;> simp only at h <;> cases h
 ·cases h
theorem YG.uM {c a b:Operand} {t:Bool} (hc:aP fr c=.v (.bool t)) (ht:t=true):YG P (.pick c a b) fr Γ (aP fr a):=fun B K β w l hI hF=>⟨_,R.uM (hF.gy hc) ht,hF.ev a⟩
theorem YG.uL {c a b:Operand} {t:Bool} (hc:aP fr c=.v (.bool t)) (ht:t=false):YG P (.pick c a b) fr Γ (aP fr b):=fun B K β w l hI hF=>⟨_,R.uL (hF.gy hc) ht,hF.ev b⟩
theorem YG.su {x:Operand} {i o:Nat} (hx:aP fr x=.loc i o):YG P (.nilCheck x) fr Γ (.loc i o):=fun B K β w l hI hF=>by
 have h:=hF.ev x;rw [hx] at h;generalize hv:ev l x=v at h
 cases h with | loc _ _ b hb=>exact ⟨_,R.IB hv,.loc i o b hb⟩
theorem YG.sr {x:Operand} {cs:List GV} {o:Nat} (hx:aP fr x=.box cs o):YG P (.nilCheck x) fr Γ (.box cs o):=fun B K β w l hI hF=>by
 have h:=hF.ev x;rw [hx] at h;generalize hv:ev l x=v at h
 cases h with | box b o' _ _ hb=>exact ⟨_,R.IB hv,.box b o' o cs hb⟩
theorem YG.pR {x:Operand} {t:TypeId} [hT:oF P t] {s:ae} (hx:aP fr x=.v (sv s)):YG P (.call ⟨.builtin .len,#[x],#[t]⟩) fr Γ (.v (ii s.length)):=YG.v1 hx fun l w h=>R.pR h
theorem YG.oW {x:Operand} {t e:TypeId} {k:Nat} [hT:ma P t e k] {k':Nat} {rows:List (List GV)} (hx:aP fr x=.sl k' rows):YG P (.call ⟨.builtin .len,#[x],#[t]⟩) fr Γ (.v (ii rows.length)):=fun B K β w l hI hF=>by
 have h:=hF.ev x;rw [hx] at h;generalize hv:ev l x=v at h
 cases h with
 | sl0 a c=>exact ⟨_,R.Iu hv,.v _⟩
 | sl b o c _ _ h _=>exact ⟨_,R.Iu hv,.v _⟩
theorem YG.sk {x:Operand} {t e:TypeId} {k:Nat} [hT:ma P t e k] {i n:Nat} (hx:aP fr x=.vec i n):YG P (.call ⟨.builtin .len,#[x],#[t]⟩) fr Γ (.v (ii n)):=fun B K β w l hI hF=>by
 have h:=hF.ev x;rw [hx] at h;generalize hv:ev l x=v at h
 cases h with | vec _ _ a c h=>exact ⟨_,R.Iu hv,.v _⟩
theorem YG.sj {x:Operand} {t e:TypeId} {k:Nat} [hT:ma P t e k] {a:Option Addr} {n c:Nat} (hx:aP fr x=.v (.slice a n c)):YG P (.call ⟨.builtin .len,#[x],#[t]⟩) fr Γ (.v (ii n)):=YG.v1 hx fun l w h=>R.Iu h
theorem YG.uf {x y:Operand} {t t':TypeId} {a b:ae} (hx:aP fr x=.v (sv a)) (hy:aP fr y=.v (sv b)):YG P (.binOp .eql t x y t') fr Γ (.v (.bool (a==b))):=YG.v2 hx hy fun l w h k=>R.uf h k
theorem YG.uG {x y:Operand} {t t':TypeId} {a b:ae} (hx:aP fr x=.v (sv a)) (hy:aP fr y=.v (sv b)):YG P (.binOp .neq t x y t') fr Γ (.v (.bool (!(a==b)))):=YG.v2 hx hy fun l w h k=>R.uG h k
theorem YG.pQ {x y:Operand} {t:TypeId} [hT:oF P t] {s:ae} {k:IntKind} {i:Nat} {c:UInt8} (hx:aP fr x=.v (sv s)) (hy:aP fr y=.v (.int k i)) (hc:s[i]?=some c):YG P (.index t x y) fr Γ (.v (.int .u8 c.toNat)):=YG.v2 hx hy fun l w h k=>R.pQ h k hc
theorem YG.add {x y:Operand} {t t':TypeId} {a b:Int} (hx:aP fr x=.v (ii a)) (hy:aP fr y=.v (ii b)) (hb : -9223372036854775808<=a+b/\a+b<=9223372036854775807):YG P (.binOp .add t x y t') fr Γ (.v (ii (a+b))):=YG.v2 hx hy fun l w h k=>R.add h k hb.1 hb.2
theorem YG.pI {x y:Operand} {t t':TypeId} {a b:Nat} (hx:aP fr x=.v (ii a)) (hy:aP fr y=.v (ii b)) (hb:a+b<=9223372036854775807):YG P (.binOp .add t x y t') fr Γ (.v (ii ((a+b:Nat):Int))):=YG.v2 hx hy fun l w h k=>R.pI h k hb
theorem YG.oG {x y:Operand} {t t':TypeId} {a:Nat} (hx:aP fr x=.v (ii a)) (hy:aP fr y=.v (ii 1)) (hb:a+1<=9223372036854775807):YG P (.binOp .add t x y t') fr Γ (.v (ii ((a+1:Nat):Int))):=YG.v2 hx hy fun l w h k=>R.oG h k hb
theorem YG.sub {x y:Operand} {t t':TypeId} {a b:Int} (hx:aP fr x=.v (ii a)) (hy:aP fr y=.v (ii b)) (hb : -9223372036854775808<=a - b/\a - b<=9223372036854775807):YG P (.binOp .sub t x y t') fr Γ (.v (ii (a - b))):=YG.v2 hx hy fun l w h k=>R.sub h k hb.1 hb.2
theorem YG.mul {x y:Operand} {t t':TypeId} {a b:Int} (hx:aP fr x=.v (ii a)) (hy:aP fr y=.v (ii b)) (hb : -9223372036854775808<=a * b/\a * b<=9223372036854775807):YG P (.binOp .mul t x y t') fr Γ (.v (ii (a * b))):=YG.v2 hx hy fun l w h k=>R.mul h k hb.1 hb.2
theorem YG.cat {x y:Operand} {t t':TypeId} {a b:ae} (hx:aP fr x=.v (sv a)) (hy:aP fr y=.v (sv b)) (hb:a.length+b.length<=9223372036854775807):YG P (.binOp .add t x y t') fr Γ (.v (sv (a++b))):=YG.v2 hx hy fun l w h k=>R.cat h k hb
theorem YG.sD {x:Operand} {t:TypeId} [hT:oF P t] {s:ae} {lo hi:Operand} {k k':IntKind} {i j:Nat} (hx:aP fr x=.v (sv s)) (gH:aP fr lo=.v (.int k i)) (zC:aP fr hi=.v (.int k' j)) (hb:i<=j/\j<=s.length):YG P (.slice t x (some lo) (some hi) none) fr Γ (.v (sv ((s.take j).drop i))) :=
 fun B K β w l hI hF=>⟨_,R.NM (hF.gy hx) ⟨k,hF.gy gH⟩ ⟨k',hF.gy zC⟩ hb.1 hb.2,.v _⟩
theorem YG.sC {x:Operand} {t:TypeId} [hT:oF P t] {s:ae} {lo:Operand} {k:IntKind} {i:Nat} (hx:aP fr x=.v (sv s)) (gH:aP fr lo=.v (.int k i)) (hb:i<=s.length):YG P (.slice t x (some lo) none none) fr Γ (.v (sv (s.drop i))) :=
 fun B K β w l hI hF=>⟨_,by
  have:=R.NM (P:=P) (w:=w) (l:=l) (t:=t) (lo:=some lo) (hi:=none) (i:=i) (j:=s.length) (hF.gy hx) ⟨k,hF.gy gH⟩ rfl hb (Nat.le_refl _);rw [List.take_length] at this
  exact this,.v _⟩
theorem YG.sB {x:Operand} {t:TypeId} [hT:oF P t] {s:ae} {hi:Operand} {k:IntKind} {j:Nat} (hx:aP fr x=.v (sv s)) (zC:aP fr hi=.v (.int k j)) (hb:j<=s.length):YG P (.slice t x none (some hi) none) fr Γ (.v (sv (s.take j))) :=
 fun B K β w l hI hF=>⟨_,R.NM (P:=P) (w:=w) (l:=l) (t:=t) (lo:=none) (hi:=some hi) (i:=0) (j:=j) (hF.gy hx) rfl ⟨k,hF.gy zC⟩ (Nat.zero_le _) hb,.v _⟩
theorem YG.ext {x:Operand} {i:Nat} {cs:List GV} {g:GV} (hx:aP fr x=.tup cs) (hg:cs[i]?=some g):YG P (.extract x i) fr Γ g:=fun B K β w l hI hF=>by
 have h:=hF.ev x;rw [hx] at h;generalize hv:ev l x=v at h
 cases h with
 | tup vs _ hl h =>
  have hi:i < vs.length:=by rw [hl];exact (List.getElem?_eq_some_iff.1 hg).1
  exact ⟨vs[i],R.extract hv (by simp [hi]),h i _ g (by simp [hi]) hg⟩
theorem YG.nX {x y:Operand} {t e:TypeId} {k:Nat} [hT:ma P t e k] {rows:List (List GV)} {kk:IntKind} {i:Nat} {r:List GV} (hx:aP fr x=.sl k rows) (hy:aP fr y=.v (.int kk i)) (hr:rows[i]?=some r):YG P (.indexAddr t x y) fr Γ (.box r 0):=fun B K β w l hI hF=>by
 have h:=hF.ev x;rw [hx] at h;have hi:=(List.getElem?_eq_some_iff.1 hr).1;generalize hv:ev l x=v at h
 cases h with
 | sl0 a c=>simp at hi
 | sl b o c _ _ h _=>exact ⟨_,R.pP hv (hF.gy hy) hi,.box b (o+i * k) 0 r (h i r hr).2⟩
theorem YG.rQ {x:Operand} {s:TypeId} {f off k:Nat} {agg:Bool} [hT:dh P s f off k agg] {i o:Nat} (hx:aP fr x=.loc i o):YG P (.fieldAddr s x f) fr Γ (.loc i (o+off)):=fun B K β w l hI hF=>by
 have h:=hF.ev x;rw [hx] at h;generalize hv:ev l x=v at h
 cases h with | loc _ _ b hb=>exact ⟨_,R.MH hv,.loc i _ b hb⟩
theorem YG.rO {x:Operand} {s:TypeId} {f off k:Nat} {agg:Bool} [hT:dh P s f off k agg] {cs:List GV} {o:Nat} (hx:aP fr x=.box cs o):YG P (.fieldAddr s x f) fr Γ (.box cs (o+off)):=fun B K β w l hI hF=>by
 have h:=hF.ev x;rw [hx] at h;generalize hv:ev l x=v at h
 cases h with | box b o' _ _ hb=>exact ⟨_,R.MH hv,by rw [Nat.add_assoc];exact .box b o' _ cs hb⟩
theorem YG.wT {x:Operand} {t:TypeId} [hT:Ty P t false 1] {i o:Nat} {E:TypeId} {cs:List GV} {g:GV} (hx:aP fr x=.loc i o) (br:Γ[i]?=some (.box E cs)) (hg:cs[o]?=some g):YG P (.load t x) fr Γ g:=fun B K β w l hI hF=>by
 have h:=hF.ev x;rw [hx] at h;generalize hv:ev l x=v at h
 cases h with
 | loc _ _ b hb =>
  obtain ⟨b',vs,h1,h2,h3,h4⟩:=hI.ob i _ br;rw [hb] at h1;cases h1;obtain ⟨u,hu,hr⟩:=h3.at hg;exact ⟨u,R.ld hv (u9 h2 (by simpa using hu)),hr⟩
theorem YG.wQ {x:Operand} {t:TypeId} [hT:Ty P t false 1] {cs:List GV} {o:Nat} {g:GV} (hx:aP fr x=.box cs o) (hg:cs[o]?=some g):YG P (.load t x) fr Γ g:=fun B K β w l hI hF=>by
 have h:=hF.ev x;rw [hx] at h;generalize hv:ev l x=v at h
 cases h with
 | box b o' _ _ hb =>
  obtain ⟨hp,u,hu,hr⟩:=hI.fz _ _ _ (hb o g hg);exact ⟨u,R.ld hv hu,hr.pc hp⟩
theorem sw {k:Nat} {rows:List (List GV)} (hk:fM k rows) {i j:Nat} {r:List GV} {g:GV} (hr:rows[i]?=some r) (hg:r[j]?=some g):rows.flatten[i * k+j]?=some g:=by
 induction rows generalizing i with
 | nil=>simp at hr
 | cons a rows ih =>
  have ha:a.length=k:=(hk a (mem_cons_self)).1
  cases i with
  | zero =>
   cases hr;have hj:=(List.getElem?_eq_some_iff.1 hg).1;rw [Nat.zero_mul,Nat.zero_add,flatten_cons,getElem?_append_left hj];exact hg
  | succ i =>
   rw [flatten_cons,List.getElem?_append_right (by rw [ha,Nat.succ_mul];omega),ha];rw [show (i+1) * k+j - k=i * k+j by rw [Nat.succ_mul];omega];exact ih (fun r hr=>hk r (mem_cons_of_mem _ hr)) (by simpa using hr)
theorem YG.si {x:Operand} {t:TypeId} {k:Nat} [hT:Ty P t true k] {i o:Nat} {E:TypeId} {cs gs:List GV} (hx:aP fr x=.loc i o) (br:Γ[i]?=some (.box E cs)) (hg:(cs.drop o).take k=gs) (hk:gs.length=k):YG P (.load t x) fr Γ (.agg gs):=fun B K β w l hI hF=>by
 have h:=hF.ev x;rw [hx] at h;generalize hv:ev l x=v at h
 cases h with
 | loc _ _ b hb =>
  obtain ⟨b',vs,h1,h2,h3,h4⟩:=hI.ob i _ br;rw [hb] at h1;cases h1;have h5:=(h3.drop o).take k;rw [hg] at h5;refine ⟨.agg ((vs.drop o).take k).toArray,R.Vf hv (by rw [h5.1,hk]) (fun j v hj=>?_),.agg _ _ h5.1 h5.2⟩;rw [getElem?_take] at hj;split at hj
  ·rw [getElem?_drop] at hj;exact u9 h2 (by simpa using hj)
  ·cases hj
theorem vb {K:Fz} {β:Bt} {H:Array Obj} {b:Nat}:∀ (gs:List GV) (o:Nat),(∀ (j:Nat) g,gs[j]?=some g->∃ v,fp H b (o+j)=some v/\Rel K β v g)->∃ vs:List Value,aV K β vs gs/\∀ (j:Nat) v,vs[j]?=some v->fp H b (o+j)=some v
 | [],o,_=>⟨[],.nil,fun j v h=>by simp at h⟩
 | g::gs,o,h=>by
  obtain ⟨v,hv,hr⟩:=h 0 g rfl;obtain ⟨vs,h1,h2⟩:=vb gs (o+1) (fun j g' hg=>by rw [show o+1+j=o+(j+1) by omega];exact h (j+1) g' hg);refine ⟨v::vs,.cons hr h1,fun j u hj=>?_⟩
  cases j with
  | zero=>cases hj;exact hv
  | succ j=>rw [show o+(j+1)=o+1+j by omega];exact h2 j u hj
theorem YG.sf {x:Operand} {t:TypeId} {k:Nat} [hT:Ty P t true k] {cs gs:List GV} {o:Nat} (hx:aP fr x=.box cs o) (hg:(cs.drop o).take k=gs) (hk:gs.length=k):YG P (.load t x) fr Γ (.agg gs):=fun B K β w l hI hF=>by
 have h:=hF.ev x;rw [hx] at h;generalize hv:ev l x=v at h
 cases h with
 | box b o' _ _ hb =>
  obtain ⟨vs,h1,h2⟩:=vb (K:=K) (β:=β) (H:=w.heap) (b:=b) gs (o'+o) (fun j g hj=>by
   have ll:cs[o+j]?=some g:=by
    rw [<-hg,getElem?_take] at hj;split at hj
    ·rw [getElem?_drop] at hj;exact hj
    ·cases hj
   obtain ⟨hp,u,hu,hr⟩:=hI.fz _ _ _ (hb (o+j) g ll)
   exact ⟨u,by rw [Nat.add_assoc];exact hu,hr.pc hp⟩)
  exact ⟨.agg vs.toArray,R.Vf hv (by rw [h1.1,hk]) h2,.agg _ _ h1.1 h1.2⟩
def lK:GV->Option (List GV)
 | .v x=>match IF x with
  | true=>some [.v x]
  | false=>none
 | .agg cs=>some cs
 | .Zy=>none
 | .tup _=>none
 | .vp _ _ _ _ _=>none
 | .sl k rows=>some [.sl k rows]
 | .box cs o=>some [.box cs o]
 | .loc i o=>some [.loc i o]
 | .vec i n=>some [.vec i n]
 | .arr i o n=>some [.arr i o n]
 | .fn f a c=>some [.fn f a c]
def na:List GV->Nat->List GV->List GV
 | cs,_,[]=>cs
 | cs,o,v::r=>na (bj cs o v) (o+1) r
def xp (pl:Nat->Option (Nat × Nat)):List GV->List (Nat × GV)->Option (List GV)
 | cs,[]=>some cs
 | cs,(i,g)::r=>match pl i with
  | none=>none
  | some (o,k)=>match lK g with
   | none=>none
   | some gs=>if gs.length≠k || decide (o+gs.length > cs.length) then none else xp pl (na cs o gs) r
theorem Rel.cells {K:Fz} {β:Bt} {x:Value} {g:GV} {gs:List GV} (h:Rel K β x g) (hg:lK g=some gs):∃ vs:List Value,x.cells=vs.toArray/\aV K β vs gs:=by
 have one:∀ {x:Value} {g:GV},Rel K β x g->x.cells=#[x]->∃ vs:List Value,x.cells=vs.toArray/\aV K β vs [g]:=fun hr hc=>⟨[_],hc,.cons hr .nil⟩
 cases h with
 | v x =>
  simp only [lK] at hg;split at hg
  ·rename_i ho;cases hg;exact one (.v _) (vC ho).1
  ·cases hg
 | Zy x=>cases hg
 | agg vs cs hl h=>cases hg;exact ⟨vs,rfl,hl,h⟩
 | tup vs cs hl h=>cases hg
 | sl0 a c k=>cases hg;exact one (.sl0 a c k) rfl
 | sl b o c k rows h hc=>cases hg;exact one (.sl b o c k rows h hc) rfl
 | box b o' o cs h=>cases hg;exact one (.box b o' o cs h) rfl
 | loc i o b h=>cases hg;exact one (.loc i o b h) rfl
 | vec i n a c h=>cases hg;exact one (.vec i n a c h) rfl
 | vp i n k idx off x h=>cases hg
 | arr i o n b c h=>cases hg;exact one (.arr i o n b c h) rfl
 | fn f xs ys first cap hl iG h h'=>cases hg;exact one (.fn f xs ys first cap hl iG h h') rfl
def lE:List GV->Bool
 | []=>true
 | g::gs=>g.one&&lE gs
def qH:List GV->Bool
 | []=>true
 | g::gs=>g.pc&&qH gs
theorem lU {gs:List GV} (h:qH gs=true):∀ g∈gs,g.pc=true:=by
 induction gs with
 | nil=>intro g hg;cases hg
 | cons x gs ih =>
  simp only [qH,Bool.and_eq_true] at h;intro g hg
  rcases List.mem_cons.1 hg with rfl | hg
  ·exact h.1
  ·exact ih h.2 g hg
theorem aV.kR {K:Fz} {β:Bt} {vs:List Value} {gs:List GV} (h:aV K β vs gs) (ho:lE gs=true):kR vs=true:=by
 induction gs generalizing vs with
 | nil=>have:vs=[]:=eq_nil_of_length_eq_zero h.1;subst this;rfl
 | cons g gs ih =>
  cases vs with
  | nil=>have:=h.1;simp at this
  | cons v vs =>
   simp only [lE,Bool.and_eq_true] at ho;obtain ⟨h1,h2⟩:=h.nR;have h3:=(vC (h1.one ho.1)).2;have h4:=ih h2 ho.2;simp only [Xw.kR,all_cons,Bool.and_eq_true] at h4 |-;exact ⟨h3,h4⟩
end
end Go.Xg
namespace Go.Xg
open Go.RowKit Go.Xw
theorem aV.gi {K:Fz} {β:Bt} {us:List Value} {hs:List GV} (k:aV K β us hs):∀ {vs:List Value} {gs:List GV} (o:Nat),aV K β vs gs->aV K β (gi vs o us) (na gs o hs):=by
 have hu:∀ {vs:List Value} {gs:List GV} (o:Nat) {v:Value} {g:GV},Rel K β v g->aV K β vs gs->aV K β (eF vs o v) (bj gs o g):=by
  intro vs
  induction vs with
  | nil =>
   intro gs o v g hv h;have:gs=[]:=eq_nil_of_length_eq_zero h.1.symm;subst this;exact .nil
  | cons x vs ih =>
   intro gs o v g hv h
   cases gs with
   | nil=>have:=h.1;simp at this
   | cons y gs =>
    obtain ⟨h1,h2⟩:=h.nR
    cases o with
    | zero=>exact .cons hv h2
    | succ o=>exact .cons h1 (ih o hv h2)
 induction us generalizing hs with
 | nil =>
  intro vs gs o h;have:hs=[]:=eq_nil_of_length_eq_zero k.1.symm;subst this;exact h
 | cons u us ih =>
  intro vs gs o h
  cases hs with
  | nil=>have:=k.1;simp at this
  | cons g hs =>
   obtain ⟨h1,h2⟩:=k.nR;exact ih h2 (o+1) (hu o h1 h)
theorem vf {K:Fz} {β:Bt} {pl:Nat->Option (Nat × Nat)} {l:List Value} {fr:List GV} (hF:FR K β fr l):∀ (parts:List (Nat × Operand)) (vs:List Value) (gs cs:List GV),aV K β vs gs ->
  xp pl gs (parts.map fun x=>(x.1,aP fr x.2))=some cs->∃ us,oL pl vs (parts.map fun x=>(x.1,ev l x.2))=some us/\aV K β us cs
 | [],vs,gs,cs,h,hf=>by cases hf;exact ⟨vs,rfl,h⟩
 | (i,x)::r,vs,gs,cs,h,hf=>by
  simp only [List.map_cons,xp] at hf;simp only [List.map_cons,oL]
  cases hp:pl i with
  | none=>rw [hp] at hf;cases hf
  | some y =>
   obtain ⟨o,k⟩:=y;rw [hp] at hf;simp only at hf |-
   cases hg:lK (aP fr x) with
   | none=>rw [hg] at hf;cases hf
   | some hs =>
    rw [hg] at hf;simp only at hf;obtain ⟨us,jA,jY⟩:=(hF.ev x).cells hg
    have b8:(ev l x).cells.size=hs.length:=by rw [jA];simpa using jY.1
    rw [b8,h.1];split at hf
    ·cases hf
    ·rename_i hc;rw [if_neg hc]
     have jR:(ev l x).cells.toList=us:=by rw [jA]
     rw [jR];exact vf hF r _ _ cs (jY.gi o h) hf
section
variable {P:Program} {m:Nat} {Q:dQ} {fr:List GV} {Γ:List Ob} {ops:Array Oper} {rest:List Oper} {d:Option Tmp} {op:Op} {ty:TypeId} {pos:String} {af:Array Edge}
def kg (z:List Value):List GV:=z.map .v
theorem YG.build {t:TypeId} {pl:List (Nat × Nat)} {z:List Value} [hT:sL P t pl z] {parts:List (Nat × Operand)} {cs:List GV} (hf:xp (fun i=>pl[i]?) (kg z) (parts.map fun x=>(x.1,aP fr x.2))=some cs) :
  YG P (.build t parts.toArray) fr Γ (.agg cs):=fun B K β w l hI hF=>by
 obtain ⟨us,h1,h2⟩:=vf hF parts z _ cs aV.self hf;exact ⟨_,R.build h1,.agg us cs h2.1 h2.2⟩
theorem lM {K:Fz} {β:Bt} {l:List Value} {t:Nat} (h:FR K β fr l) (ht:iT fr t=true):iT l t=true:=by
 induction h generalizing t with
 | nil=>cases ht
 | cons _ _ ih=>cases t with | zero=>rfl | succ t=>exact ih ht
theorem rq {l:List Value} {t:Nat} (h:iT l t=true) (u:Value):nth (eF l t u) t=u:=by
 induction l generalizing t with
 | nil=>cases h
 | cons x l ih=>cases t with | zero=>rfl | succ t=>exact ih h
theorem nf {l:List Value} {t t':Nat} (h:t'≠t) (u:Value):nth (eF l t u) t'=nth l t':=by
 induction l generalizing t t' with
 | nil=>rfl
 | cons x l ih=>cases t with
  | zero=>cases t' with | zero=>exact absurd rfl h | succ t'=>rfl
  | succ t=>cases t' with | zero=>rfl | succ t'=>exact ih (fun e=>h (by rw [e]))
theorem GL.alloc {t:TypeId} {z:Value} {cs:List GV} [hT:qt P t z] (hz:kg z.cells.toList=cs) (h:GL P m ops Q rest (bh fr d (.loc Γ.length 0)) (Γ++[.box t cs])):GL P m ops Q (⟨d,.alloc t,ty,pos,af,none⟩::rest) fr Γ:=fun B K β w l hm hI hF=>by
 refine WL.alloc (z:=z) fun b w' hn=>?_
 have be:=hI.add (vs:=z.cells.toList) (cs:=cs) (E:=t) (by simpa using hn) (by rw [<-hz];exact aV.self);exact h B K _ w' _ hm be ((hF.mono (cm.refl K) (gk (by rw [hI.out _ (Nat.le_refl _)];trivial))).put d (.loc _ 0 b bm))
theorem GL.box {t:TypeId} {x:Operand} {cs:List GV} (hx:lK (aP fr x)=some cs) (h:GL P m ops Q rest (bh fr d (.loc Γ.length 0)) (Γ++[.box t cs])):GL P m ops Q (⟨d,.box t x,ty,pos,af,none⟩::rest) fr Γ:=fun B K β w l hm hI hF=>by
 obtain ⟨vs,h1,h2⟩:=(hF.ev x).cells hx
 refine WL.box rfl fun b w' hn=>?_
 rw [h1] at hn;have be:=hI.add hn h2;exact h B K _ w' _ hm be ((hF.mono (cm.refl K) (gk (by rw [hI.out _ (Nat.le_refl _)];trivial))).put d (.loc _ 0 b bm))
def oset:List Ob->Nat->Ob->List Ob
 | [],_,_=>[]
 | _::l,0,x=>x::l
 | y::l,n+1,x=>y::oset l n x
theorem aX (l:List Ob) (i:Nat) (x:Ob):oset l i x=l.set i x:=by
 induction l generalizing i with
 | nil=>rfl
 | cons y l ih=>cases i with | zero=>rfl | succ i=>simp [oset,ih]
theorem tw:∀ (us:List Value) (vs:List Value) (o:Nat),tO vs.toArray o us=(gi vs o us).toArray
 | [],vs,o=>rfl
 | u::us,vs,o=>by rw [tO,gi,xb];exact tw us _ _
theorem GL.st {x y:Operand} {t:TypeId} {agg:Bool} {k:Nat} [hT:Ty P t agg k] {i o:Nat} {E:TypeId} {cs gs:List GV} (hx:aP fr x=.loc i o) (br:Γ[i]?=some (.box E cs)) (hy:lK (aP fr y)=some gs) (hk:gs.length=k) (h1:lE gs=true)
  (hl:Nat.ble (o+k) cs.length=true) (h:GL P m ops Q rest (bh fr d (.v undef)) (oset Γ i (.box E (na cs o gs)))):GL P m ops Q (⟨d,.store t x y,ty,pos,af,none⟩::rest) fr Γ:=fun B K β w l hm hI hF=>by
 have hr:=hF.ev x;rw [hx] at hr;generalize hv:ev l x=v at hr
 cases hr with
 | loc _ _ b hb =>
  obtain ⟨b',vs,h2,h3,h4,h5⟩:=hI.ob i _ br;rw [hb] at h2;cases h2;obtain ⟨us,jA,jY⟩:=(hF.ev y).cells hy
  have iG:o+k<=cs.length:=by simpa using hl
  refine WL.st (t:=t) hv rfl h3 (by rw [jA];simpa [hk] using jY.1) (by rw [size_toArray,h4.1];exact iG) (by rw [jA];simpa using jY.kR h1) fun w' hs=>?_
  rw [jA,List.toList_toArray,tw] at hs;have be:=hI.store br hb hs (jY.gi o h4);rw [<-aX] at be;exact h B K β w' _ hm be (hF.put d (.v _))
def chunk:Nat->Nat->List GV->List (List GV)
 | 0,_,_=>[]
 | n+1,k,gs=>gs.take k::chunk n k (gs.drop k)
theorem vc {k:Nat}:∀ (n:Nat) (gs:List GV),gs.length=n * k->(chunk n k gs).flatten=gs/\(chunk n k gs).length=n/\∀ r∈chunk n k gs,r.length=k/\∀ g∈r,g∈gs
 | 0,gs,h=>by
  have:gs=[]:=eq_nil_of_length_eq_zero (by simpa using h);subst this;exact ⟨rfl,rfl,fun r hr=>by cases hr⟩
 | n+1,gs,h=>by
  have hk:k<=gs.length:=by rw [h,Nat.succ_mul];omega
  obtain ⟨h1,h2,h3⟩:=vc (k:=k) n (gs.drop k) (by rw [List.length_drop,h,Nat.succ_mul];omega);refine ⟨by rw [chunk,flatten_cons,h1,List.take_append_drop],by rw [chunk,length_cons,h2],fun r hr=>?_⟩;rw [chunk] at hr
  rcases List.mem_cons.1 hr with rfl | hr
  ·exact ⟨by simp [hk],fun g hg=>List.mem_of_mem_take hg⟩
  ·obtain ⟨h4,h5⟩:=h3 r hr;exact ⟨h4,fun g hg=>List.mem_of_mem_drop (h5 g hg)⟩
def zs:Nat->List Value->List GV
 | 0,_=>[]
 | n+1,z=>kg z++zs n z
theorem EV {K:Fz} {β:Bt} {n k:Nat} {z:List Value} (hz:z.length=k) (hk:0 < k):aV K β ((List.range (n * k)).map fun j=>z.getD (j % k) undef) (zs n z):=by
 induction n with
 | zero=>simpa [zs] using aV.nil
 | succ n ih =>
  have he:(List.range ((n+1) * k)).map (fun j=>z.getD (j % k) undef)=(List.range k).map (fun j=>z.getD (j % k) undef)++(List.range (n * k)).map fun j=>z.getD (j % k) undef:=by
   rw [Nat.succ_mul,Nat.add_comm,List.range_add,List.map_append,List.map_map]
   congr 1
   apply List.map_congr_left;intro j _;simp
  rw [he,zs];refine aV.app ?_ ih
  have:(List.range k).map (fun j=>z.getD (j % k) undef)=z:=by
   apply List.ext_getElem
   ·simp [hz]
   ·intro j h1 h2;simp at h1;simp [Nat.mod_eq_of_lt h1,List.getElem?_eq_getElem h2]
  rw [this];exact aV.self
theorem GL.Vg {t e:TypeId} {k:Nat} {z:List Value} [hT:oE P t e k z] {n:Nat} {parts:List (Nat × Operand)} {cs:List GV} (hn:Nat.ble (n * k) 16777216=true) (hf:xp (fun i=>some (i * k,k)) (zs n z) (parts.map fun x=>(x.1,aP fr x.2))=some cs)
  (hl:Nat.beq cs.length (n * k)=true) (hp:qH cs=true) (h:GL P m ops Q rest (bh fr d (.sl k (chunk n k cs))) Γ):GL P m ops Q (⟨d,.buildSlice t n parts.toArray,ty,pos,af,none⟩::rest) fr Γ:=fun B K β w l hm hI hF=>by
 obtain ⟨us,h1,h2⟩:=vf hF parts _ _ cs (EV (n:=n) hT.zl hT.pos) hf
 have iG:cs.length=n * k:=by simpa using hl
 refine WL.A4 (by simpa using hn) h1 fun b w' qW=>?_
 obtain ⟨hle,be⟩:=hI.sS qW h2 (lU hp);obtain ⟨c1,c2,c3⟩:=vc n cs iG;refine h B _ β w' _ hm be ((hF.mono hle (dc.refl β)).put d ?_)
 have jv:fM k (chunk n k cs):=fun r hr=>⟨(c3 r hr).1,fun g hg=>lU hp g ((c3 r hr).2 g hg)⟩
 have:=Rel.sl (K:=kl K b cs) (β:=β) b 0 n k (chunk n k cs) (fun i r hr=>⟨(jv r (mem_of_getElem? hr)).1,fun j g hg=>by
  rw [Nat.zero_add];exact tW (by have:=sw jv hr hg;rw [c1] at this;exact this)⟩) (by rw [c2];exact Nat.le_refl _)
 rw [c2] at this;exact this
theorem GL.Vh {t e:TypeId} {k:Nat} {z:List Value} [hT:oE P t e k z] {n:Nat} {parts:List (Nat × Operand)} {cs:List GV} (hn:Nat.ble (n * k) 16777216=true) (hf:xp (fun i=>some (i * k,k)) (zs n z) (parts.map fun x=>(x.1,aP fr x.2))=some cs)
  (hl:Nat.beq cs.length (n * k)=true) (hp:qH cs=true) (h:GL P m ops Q rest (bh fr d (.vec Γ.length n)) (Γ++[.vec e k 0 (chunk n k cs)])):GL P m ops Q (⟨d,.buildSlice t n parts.toArray,ty,pos,af,none⟩::rest) fr Γ:=fun B K β w l hm hI hF=>by
 obtain ⟨us,h1,h2⟩:=vf hF parts _ _ cs (EV (n:=n) hT.zl hT.pos) hf
 have iG:cs.length=n * k:=by simpa using hl
 have zG:n * k<=16777216:=by simpa using hn
 have bI:n<=16777216:=Nat.le_trans (Nat.le_mul_of_pos_right n hT.pos) zG
 refine WL.A4 zG h1 fun b w' qW=>?_
 obtain ⟨c1,c2,c3⟩:=vc n cs iG
 have jv:fM k (chunk n k cs):=fun r hr=>⟨(c3 r hr).1,fun g hg=>lU hp g ((c3 r hr).2 g hg)⟩
 have how:=gw.Sw qW (n:=n) (k:=k) (by rw [h2.1,iG]) (by simp only [maxLen];omega);have be:=hI.Aq (x:=.slice (some ⟨b,0,none⟩) n n) (xs:=us) (rows:=chunk n k cs) qW.ext (by rw [c2];exact how.base (Nat.zero_le _)) (fun b' ba=>by cases ba;rw [qW.fresh];exact Nat.le_refl _) (by rw [c1];exact h2) jv;refine h B K _ w' _ hm be ((hF.mono (cm.refl K) (gk (by rw [hI.out _ (Nat.le_refl _)];trivial))).put d ?_);exact .vec _ n _ n ⟨_,_,bm,by rw [c2];exact Nat.le_refl _,fun _=>rfl⟩
def NF (x:Operand) (t:Tmp):Bool :=
 match x with
 | .tmp t'=>!Nat.beq t' t
 | _=>true
theorem QW {l:List Value} {x:Operand} {t:Tmp} (h:NF x t=true) (u:Value):ev (put l (some t) u) x=ev l x:=by
 cases x with
 | tmp t'=>exact nf (fun e=>by subst e;simp [NF] at h) u
 | _=>rfl
theorem GL.push {x s:Operand} {t e k gx:Nat} {z:List Value} [hT:nC P t e k gx] [hZ:oE P t e k z] {d1:Tmp} {LU:TypeId} {Ec:String} {Jm:Array Edge} {i n fz:Nat} {rows:List (List GV)} {gs:List GV}
  (hx:lK (aP fr x)=some gs) (hk:Nat.beq gs.length k=true) (h1:lE gs=true) (hp:qH gs=true) (hs:aP fr s=.vec i n) (RX:NF s d1=true) (hd:iT fr d1=true) (br:Γ[i]?=some (.vec e k fz rows)) (hn:rows.length=n)
  (hb:(n+1<=9223372036854775807/\(n+1) * gx<=140737488355328)/\k<=16777216)
  (h:GL P m ops Q rest (bh (bh fr (some d1) .Zy) d (.vec i (n+1))) (oset Γ i (.vec e k fz (rows++[gs])))) :
  GL P m ops Q (⟨some d1,.buildSlice t 1 #[(0,x)],LU,Ec,Jm,none⟩::⟨d,.call ⟨.builtin .append,#[s,.tmp d1],#[t,t]⟩,ty,pos,af,none⟩::rest) fr Γ:=fun B K β w l hm hI hF=>by
 subst hn;obtain ⟨us,jA,jY⟩:=(hF.ev x).cells hx;obtain ⟨h0,xs,o1,o2,o3,o4,o5,o6⟩:=hI.ob i _ br;have r7:=hF.ev s;rw [hs] at r7
 have pC:ev l s=h0:=by
  generalize hv:ev l s=v at r7
  cases r7 with
  | vec _ _ a c hh =>
   obtain ⟨h',m',e1,e2,e3⟩:=hh;rw [o1] at e1;cases e1;exact e3 rfl
 have Km:=lM hF hd
 have kP:gs.length=k:=by simpa using hk
 refine WL.push (base:=0) (v:=h0) (vs:=us) (val:=ev l x) (xs:=xs) (n:=rows.length) rfl (fun u=>by rw [QW RX];exact pC) (fun u=>rq Km u) jA (by rw [jY.1,kP]) (jY.kR h1) o2 hb.1.1 hb.1.2 hb.2 (Nat.zero_le _) ?_;intro u v' w' how fZ sW uv
 obtain ⟨K',hK,pE,be⟩:=hI.grow br o1 ⟨o2,o3⟩ (news:=[gs]) (ns:=us) how fZ sW (by simpa using jY) (fun r hr=>by simp at hr;subst hr;exact ⟨kP,lU hp⟩) (by simp) (fun b ba o v ho hv=>by
  rcases uv with h7 | h7
  ·exact h7.c hv (fun h=>h)
  ·have gH:o < xs.length:=by rw [o2.1];exact Nat.lt_of_lt_of_le ho (Nat.mul_le_mul_right k o6)
   obtain ⟨b2,c2,ot,_,_,jh⟩:=o2.cells.2 (by intro h0;rw [h0] at gH;simp at gH)
   have ey:b2=b:=by rw [ot] at ba;cases ba;rfl
   subst ey;have BW:=jh o xs[o] (by simp [gH]);rw [eN,hv] at BW;cases BW;obtain ⟨b3,c3,Ko,_,_,Kk⟩:=how.cells.2 (by intro h0;have:xs=[]:=(List.append_eq_nil_iff.1 h0).1;rw [this] at gH;simp at gH)
   have wu:b3=b2:=by rw [Ko,ba] at h7;cases h7;rfl
   subst wu
   rw [<-eN];exact Kk o _ (by rw [getElem?_append_left gH];simp [gH]))
 rw [<-aX] at be;refine h B K' _ w' _ hm be (((hF.mono hK pE).put (some d1) (.Zy u)).put d ?_);obtain ⟨a,c,rfl⟩:=how.shape;exact .vec i _ a c ⟨_,_,bm,by simp,fun _=>rfl⟩
theorem Wk.A6 {t:Nat} {a:Option Addr} {c:Nat} (E k:Nat) (ht:cj fr t=.v (.slice none 0 0)):Wk m fr Γ (bj fr t (.vec Γ.length 0)) (Γ++[.vec E k 0 []]):=fun B K β w l hm hI hF=>by
 have bV:β Γ.length=.no:=hI.out _ (Nat.le_refl _);have be:=hI.Aq (w':=w) (E:=E) (k:=k) (x:=.slice none 0 0) (xs:=[]) (rows:=[]) (Ext.refl w) (gw.nil w 0 E k) (fun b hb=>by cases hb) aV.nil (fun r hr=>by cases hr);refine ⟨K,_,be,?_⟩;have uk:=hF.mono (cm.refl K) (gk (i:=Γ.length) (x:=.gr (.slice none 0 0) ([]:List (List GV)).length) (by rw [bV];trivial));have hv:nth l t=.slice none 0 0:=Rel.eT (by rw [<-ht];exact hF.nth t)
 have hu:∀ (l:List Value) (t:Nat) (v:Value),nth l t=v->(∃ a n c,v=.slice a n c)->eF l t v=l:=by
  intro l
  induction l with
  | nil=>intro t v _ _;rfl
  | cons x l ih =>
   intro t v h1 h2
   cases t with
   | zero=>simp only [nth] at h1;subst h1;rfl
   | succ t=>simp only [nth] at h1;simp only [eF];rw [ih t v h1 h2]
 have:=uk.eF t (v:=.slice none 0 0) (g:=.vec Γ.length 0) (.vec _ 0 none 0 ⟨_,_,bm,Nat.le_refl _,fun _=>rfl⟩);rw [hu l t _ hv ⟨_,_,_,rfl⟩] at this;exact this
theorem zb {l:List Value} {t:Nat} (h:iT l t=true):eF l t (nth l t)=l:=by
 induction l generalizing t with
 | nil=>cases h
 | cons x l ih=>cases t with | zero=>rfl | succ t=>simp only [eF,nth];rw [ih h]
theorem Wk.gD {t i n E k fz:Nat} {rows:List (List GV)} (ht:cj fr t=.vec i n) (gz:iT fr t=true) (br:Γ[i]?=some (.vec E k fz rows)) (hn:rows.length=n):Wk m fr Γ (bj fr t (.sl k rows)) (oset Γ i (.vec E k n rows)):=fun B K β w l hm hI hF=>by
 subst hn;obtain ⟨h0,xs,o1,o2,o3,o4,o5,o6⟩:=hI.ob i _ br;obtain ⟨K',hK,BN,be⟩:=hI.gD br;rw [<-aX] at be;refine ⟨K',β,be,?_⟩;have hr:=hF.nth t;rw [ht] at hr
 have eG:Rel K' β (nth l t) (.sl k rows):=by
  generalize nth l t=v at hr
  cases hr with
  | vec _ _ a c hh =>
   obtain ⟨h',m',e1,e2,e3⟩:=hh;rw [o1] at e1;cases e1;have e4:=e3 rfl
   rcases o2.2 with ⟨e5,e6⟩ | ⟨g,cap,cu,e5,_,_,px,_⟩
   ·have:rows=[]:=eq_nil_of_length_eq_zero e6;subst this;exact .sl0 _ _ _
   ·rw [e5] at e4;cases e4;refine .sl g 0 _ k rows (fun j r hr=>⟨(o4 r (mem_of_getElem? hr)).1,fun q g' kM=>?_⟩) px;rw [Nat.zero_add];exact BN _ g o1 (by rw [e5];rfl) _ g' (sw o4 hr kM)
 have:=(hF.mono hK (dc.refl β)).eF t eG;rw [zb (lM hF gz)] at this;exact this
def lY (i:Nat) (cs:List GV):GV->GV
 | .loc j o=>match Nat.beq j i with
  | true=>.box cs o
  | false=>.loc j o
 | g=>match g.ok (other i) with
  | true=>g
  | false=>.Zy
theorem Rel.WU {K K':Fz} {β:Bt} {i b:Nat} {cs:List GV} {x:Value} {g:GV} (h:Rel K β x g) (hk:cm K K') (hb:β i=.fix b) (hc:∀ (j:Nat) g,cs[j]?=some g->K' b j=some g):Rel K' (gh (other i) β) x (lY i cs g):=by
 have gen:∀ {g:GV},Rel K β x g->Rel K' (gh (other i) β) x (match g.ok (other i) with | true=>g | false=>.Zy):=by
  intro g h;split
  ·rename_i ho;exact (h.mono hk (dc.refl β)).res ho
  ·exact .Zy _
 cases g with
 | loc j o =>
  simp only [lY];split
  ·rename_i hj
   have hj:j=i:=by simpa using hj
   subst hj
   cases h with
   | loc _ _ b' ba =>
    rw [hb] at ba;cases ba;have:=Rel.box (K:=K') (β:=gh (other j) β) b 0 o cs (fun q g hg=>by rw [Nat.zero_add];exact hc q g hg);rw [Nat.zero_add] at this;exact this
  ·rename_i hj
   have hj:j≠i:=by intro e;subst e;simp at hj
   exact (h.mono hk (dc.refl β)).res (uJ hj)
 | _=>exact gen h
def my (i:Nat) (cs:List GV):List GV->List GV
 | []=>[]
 | g::gs=>lY i cs g::my i cs gs
theorem Wk.freeze {i:Nat} {E:TypeId} {cs:List GV} (br:Γ[i]?=some (.box E cs)) (hp:qH cs=true) (bV:B7 (other i) (oset Γ i .gone)=true) (hm:m<=i):Wk m fr Γ (my i cs fr) (oset Γ i .gone):=fun B K β w l hB hI hF=>by
 rw [aX] at bV |-;obtain ⟨b,vs,h1,h2,h3,h4⟩:=hI.ob i _ br;obtain ⟨K',hK,BN,be⟩:=hI.freeze br (lU hp) bV (by omega);refine ⟨K',_,be,?_⟩;clear hI be bV br
 induction hF with
 | nil=>exact .nil
 | cons h t ih=>exact .cons (h.WU hK h1 (BN b h1)) ih
end
end Go.Xg
namespace Go.Xg
open Go.RowKit Go.Xw
def bL:List Nat->Nat->Nat->Nat
 | [],n,j=>n+j
 | i::_,_,0=>i
 | _::r,n,j+1=>bL r n j
def dL:List Ob->List Nat->List Ob->List Ob
 | Γ,[],xs=>Γ++xs
 | Γ,_::_,[]=>Γ
 | Γ,i::r,x::xs=>dL (oset Γ i x) r xs
def gE:List Nat->Nat->Bool
 | [],_=>true
 | i::r,n=>Nat.blt i n&&!(r.contains i)&&gE r n
theorem Be {aK:List Nat} {n j:Nat} (h:aK.length<=j):bL aK n j=n+(j - aK.length):=by
 induction aK generalizing j with
 | nil=>simp [bL]
 | cons i r ih =>
  cases j with
  | zero=>simp at h
  | succ j=>rw [bL,ih (by simpa using h)];simp
theorem Qk {aK:List Nat} {n j:Nat} (h:j < aK.length):∃ i∈aK,bL aK n j=i:=by
 induction aK generalizing j with
 | nil=>simp at h
 | cons i r ih =>
  cases j with
  | zero=>exact ⟨i,by simp,rfl⟩
  | succ j=>obtain ⟨x,h1,h2⟩:=ih (j:=j) (by simpa using h);exact ⟨x,by simp [h1],h2⟩
theorem D6 {aK:List Nat} {n:Nat} (h:gE aK n=true):∀ i∈aK,i < n:=by
 induction aK with
 | nil=>intro i hi;cases hi
 | cons x r ih =>
  simp only [gE,Bool.and_eq_true] at h;intro i hi
  rcases List.mem_cons.1 hi with rfl | hi
  ·simpa using h.1.1
  ·exact ih h.2 i hi
theorem yZ {aK:List Nat} {n:Nat} (h:gE aK n=true):∀ {j j':Nat},bL aK n j=bL aK n j'->j=j':=by
 induction aK with
 | nil=>intro j j' he;simp only [bL] at he;omega
 | cons x r ih =>
  have aq:=D6 h;simp only [gE,Bool.and_eq_true,Bool.not_eq_true'] at h
  have hx:∀ j,bL r n j≠x:=fun j he=>by
   by_cases hj:j < r.length
   ·obtain ⟨i,hi,h2⟩:=Qk (n:=n) hj;rw [he] at h2;subst h2;have:=h.1.2;rw [List.contains_iff_mem.2 hi] at this;cases this
   ·have:=Be (n:=n) (Nat.le_of_not_lt hj);have:=aq x (by simp);omega
  intro j j' he
  cases j with
  | zero=>cases j' with
   | zero=>rfl
   | succ j'=>exact absurd he.symm (hx j')
  | succ j=>cases j' with
   | zero=>exact absurd he (hx j)
   | succ j'=>rw [ih h.2 he]
theorem FB {aK:List Nat} {n:Nat}:∀ {Γ xs:List Ob},Γ.length=n->gE aK n=true->aK.length<=xs.length ->
  (∀ j,(dL Γ aK xs)[bL aK n j]?=xs[j]?)/\(∀ i,(∀ j,bL aK n j≠i)->(dL Γ aK xs)[i]?=Γ[i]?)/\(dL Γ aK xs).length=n+(xs.length - aK.length):=by
 induction aK with
 | nil =>
  intro Γ xs hn _ _;refine ⟨fun j=>?_,fun i hi=>?_,by simp [dL,hn]⟩
  ·simp only [dL,bL];rw [List.getElem?_append_right (by omega)];congr 1;omega
  ·simp only [dL,bL] at hi |-
   by_cases aq:i < n
   ·rw [getElem?_append_left (by omega)]
   ·exact absurd (by omega) (hi (i - n))
 | cons x r ih =>
  intro Γ xs hn eQ hl;have Ds:=@yZ (x::r) n eQ;have aq:=D6 eQ x (by simp)
  cases xs with
  | nil=>simp at hl
  | cons y ys =>
   simp only [gE,Bool.and_eq_true,Bool.not_eq_true'] at eQ;obtain ⟨h1,h2,h3⟩:=ih (Γ:=oset Γ x y) (xs:=ys) (by rw [aX];simpa using hn) eQ.2 (by simpa using hl)
   have hx:∀ j,bL r n j≠x:=fun j he=>by
    have:=@Ds (j+1) 0 he;omega
   refine ⟨fun j=>?_,fun i hi=>?_,by simp only [dL,h3,length_cons];omega⟩
   ·cases j with
    | zero =>
     simp only [dL,bL];rw [h2 x hx,aX,getElem?_set];simp [hn,aq]
    | succ j=>simp only [dL,bL];exact h1 j
   ·simp only [dL];rw [h2 i (fun j=>hi (j+1)),aX,getElem?_set];rw [if_neg (by intro e;exact hi 0 e)]
theorem jC.z6 {K:Fz} {β:Bt} {w:World} {f:Nat->Nat} {j:Nat} {x:Ob} (h:jC K β w (f j) (x.dr f)):jC K (fun j=>β (f j)) w j x:=by
 cases x with
 | gone=>exact h
 | box E cs =>
  obtain ⟨b,vs,h1,h2,h3,h4⟩:=h;rw [jo] at h3;exact ⟨b,vs,h1,h2,⟨by simpa using h3.1,fun i v g h5 h6=>(h3.2 i v (dr f g) h5 (by rw [getElem?_map,h6];rfl)).z6⟩,h4⟩
 | vec E k fz rows =>
  obtain ⟨h0,xs,h1,h2,h3,h4,h5⟩:=h;refine ⟨h0,xs,h1,h2,⟨h3.1,fun i v g h6 h7=>(h3.2 i v g h6 h7).pc ?_⟩,h4,h5⟩;obtain ⟨r,gg,dd⟩:=List.mem_flatten.1 (mem_of_getElem? h7);exact (h4 r gg).2 g dd
 | vech E k rows x =>
  obtain ⟨xs,h1,h2,h3,h4,h5⟩:=h;refine ⟨xs,h1,h2,⟨h3.1,fun i v g h6 h7=>(h3.2 i v g h6 h7).pc ?_⟩,h4,h5⟩;obtain ⟨r,gg,dd⟩:=List.mem_flatten.1 (mem_of_getElem? h7);exact (h4 r gg).2 g dd
 | lost=>exact h
theorem jC.Ai {K:Fz} {β:Bt} {w:World} {f:Nat->Nat} {j:Nat} {x:Ob} (h:jC K (fun j=>β (f j)) w j x):jC K β w (f j) (x.dr f):=by
 cases x with
 | gone=>exact h
 | box E cs =>
  obtain ⟨b,vs,h1,h2,h3,h4⟩:=h;refine ⟨b,vs,h1,h2,?_,h4⟩;rw [jo];refine ⟨by simpa using h3.1,fun i v g h5 h6=>?_⟩;rw [getElem?_map] at h6
  cases hc:cs[i]? with
  | none=>rw [hc] at h6;cases h6
  | some c=>rw [hc] at h6;cases h6;exact (h3.2 i v c h5 hc).Ai
 | vec E k fz rows =>
  obtain ⟨h0,xs,h1,h2,h3,h4,h5⟩:=h;refine ⟨h0,xs,h1,h2,⟨h3.1,fun i v g h6 h7=>(h3.2 i v g h6 h7).pc ?_⟩,h4,h5⟩;obtain ⟨r,gg,dd⟩:=List.mem_flatten.1 (mem_of_getElem? h7);exact (h4 r gg).2 g dd
 | vech E k rows x =>
  obtain ⟨xs,h1,h2,h3,h4,h5⟩:=h;refine ⟨xs,h1,h2,⟨h3.1,fun i v g h6 h7=>(h3.2 i v g h6 h7).pc ?_⟩,h4,h5⟩;obtain ⟨r,gg,dd⟩:=List.mem_flatten.1 (mem_of_getElem? h7);exact (h4 r gg).2 g dd
 | lost=>exact h
section
variable {K:Fz} {β:Bt} {Γ:List Ob} {w:World} {B:Bs}
theorem Inv.enter {aK:List Nat} {gn:List Ob} (h:Inv B K β Γ w) (eQ:gE aK Γ.length=true) (hl:gn.length=aK.length) (br:∀ j x,gn[j]?=some x->Γ[bL aK Γ.length j]?=some (x.dr (bL aK Γ.length))) :
  Inv (cur K (fun j=>β (bL aK Γ.length j)) gn w) K (fun j=>β (bL aK Γ.length j)) gn w:=by
 have bV:∀ i,gn.length<=i->β (bL aK Γ.length i)=.no:=fun i hi=>by
  rw [Be (by omega)];exact h.out _ (by omega)
 exact ⟨Ext.refl w,cm.refl K,dc.refl _,bV,h.fz,fun i x hi=>(h.ob _ _ (br i x hi)).z6,bV,fun i j b hi hj=>yZ eQ (h.dis _ _ b hi hj),fun i b hb=>.inl ⟨i,hb⟩,fun _ _ _ h=>.inl h,h.tab.step (S:=gX) (Ext.refl w) (fun _ h=>h.elim) (cm.refl K) (fun i b2 h2=>.inl ⟨_,h2⟩)⟩
theorem Inv.leave {aK:List Nat} {gn qe:List Ob} {K':Fz} {zf:Bt} {w':World} (h:Inv B K β Γ w) (eQ:gE aK Γ.length=true) (hl:gn.length=aK.length) (iG:aK.length<=qe.length)
  (hI:Inv (cur K (fun j=>β (bL aK Γ.length j)) gn w) K' zf qe w') :
  ∃ bP,cm K K'/\dc β bP/\(∀ j,bP (bL aK Γ.length j)=zf j)/\Inv B K' bP (dL Γ aK (qe.map (Ob.dr (bL aK Γ.length)))) w':=by
 obtain ⟨s1,s2,s3⟩:=FB (aK:=aK) (n:=Γ.length) (Γ:=Γ) (xs:=qe.map (Ob.dr (bL aK Γ.length))) rfl eQ (by simpa using iG);rw [List.length_map] at s3;generalize hf:bL aK Γ.length=f at *
 have Ds:∀ {j j'},f j=f j'->j=j':=by subst hf;exact yZ eQ
 have kO:∀ j,aK.length<=j->f j=Γ.length+(j - aK.length):=fun j hj=>by subst hf;exact Be hj
 have VM:∀ i,Γ.length<=i->f (aK.length+(i - Γ.length))=i:=fun i hi=>by rw [kO _ (by omega)];omega
 have ⟨bP,hβ1,hβ2⟩:∃ bP:Bt,(∀ j,bP (f j)=zf j)/\∀ i,(∀ j,f j≠i)->bP i=β i:=by
  classical
  refine ⟨fun i=>if h:∃ j,f j=i then zf (Classical.choose h) else β i,fun j=>?_,fun i hi=>?_⟩
  ·have hex:∃ j',f j'=f j:=⟨j,rfl⟩;simp only;rw [dif_pos hex,Ds (Classical.choose_spec hex)]
  ·simp only;rw [dif_neg (fun ⟨j,hj⟩=>hi j hj)]
 have Rf:dc β bP:=fun i=>by
  by_cases hi:∃ j,f j=i
  ·obtain ⟨j,rfl⟩:=hi;rw [hβ1];exact hI.ble j
  ·rw [hβ2 i (fun j hj=>hi ⟨j,hj⟩)];exact rC.refl _
 have H3:∀ b,blocks (fun j=>β (f j)) b->blocks β b:=fun b ⟨j,hj⟩=>⟨f j,hj⟩
 have fT:∀ i b,(bP i).blk=some b->blocks β b\/w.heap.size<=b:=fun i b hb=>by
  by_cases hi:∃ j,f j=i
  ·obtain ⟨j,rfl⟩:=hi;rw [hβ1] at hb;exact (hI.own j b hb).imp (H3 b) id
  ·rw [hβ2 i (fun j hj=>hi ⟨j,hj⟩)] at hb;exact .inl ⟨i,hb⟩
 have qA:∀ i b,(∀ j,f j≠i)->(β i).blk=some b->¬ blocks (fun j=>β (f j)) b:=fun i b hi hb ⟨j,hj⟩=>hi j (h.dis _ _ b hj hb)
 refine ⟨bP,hI.kle,Rf,hβ1,h.Ls (Vl:=Γ) ?_⟩;refine ⟨hI.ext.mono (fun k _ hk=>H3 k hk),hI.kle,Rf,h.out,hI.fz,fun i x hi=>?_,fun i hi=>?_,fun i i' b hi nN=>?_,fT,fun b o g hg=>?_,⟨hI.tab.le,hI.tab.pow,hI.tab.spc,fun i b hb=>(fT i b hb).elim (fun ⟨j,hj⟩=>h.tab.free j b hj) (fun hs=>⟨by have:=h.tab.pow.lt;have hs:w.heap.size<=b:=hs;omega,by have:=h.tab.spc.lt;have hs:w.heap.size<=b:=hs;omega⟩)⟩⟩
 ·by_cases hj:∃ j,f j=i
  ·obtain ⟨j,rfl⟩:=hj;rw [s1 j,getElem?_map] at hi
   cases hc:qe[j]? with
   | none=>rw [hc] at hi;cases hi
   | some c =>
    rw [hc] at hi;cases hi;refine jC.Ai ?_;have:=hI.ob j c hc;rw [show (fun j=>bP (f j))=zf from funext hβ1];exact this
  ·have ll:∀ j,f j≠i:=fun j h=>hj ⟨j,h⟩
   rw [s2 i ll] at hi;refine (h.ob i x hi).ext hI.ext (fun b hb=>qA i b ll hb) hI.kle Rf (hβ2 i ll) (fun b o hb hk=>?_)
   cases kP:K' b o with
   | none=>rfl
   | some g =>
    rcases hI.kn b o g kP with h7 | h7 | h7
    ·have h7:K b o=some g:=h7;rw [hk] at h7;cases h7
    ·exact absurd h7 (qA i b ll hb)
    ·have:=h.lt hb;have h7:w.heap.size<=b:=h7;omega
 ·rw [s3] at hi;have h1:=VM i (by omega);rw [<-h1,hβ1];exact hI.out _ (by omega)
 ·by_cases h1:∃ j,f j=i <;> by_cases h2:∃ j,f j=i'
  ·obtain ⟨j,rfl⟩:=h1;obtain ⟨j',rfl⟩:=h2;rw [hβ1] at hi nN;rw [hI.dis j j' b hi nN]
  ·obtain ⟨j,rfl⟩:=h1
   have pk:∀ j,f j≠i':=fun j h=>h2 ⟨j,h⟩
   rw [hβ1] at hi;rw [hβ2 i' pk] at nN
   rcases hI.own j b hi with h7 | h7
   ·exact absurd h7 (qA i' b pk nN)
   ·have:=h.lt nN;have h7:w.heap.size<=b:=h7;omega
  ·obtain ⟨j,rfl⟩:=h2
   have ct:∀ j,f j≠i:=fun j h=>h1 ⟨j,h⟩
   rw [hβ1] at nN;rw [hβ2 i ct] at hi
   rcases hI.own j b nN with h7 | h7
   ·exact absurd h7 (qA i b ct hi)
   ·have:=h.lt hi;have h7:w.heap.size<=b:=h7;omega
  ·rw [hβ2 i (fun j h=>h1 ⟨j,h⟩)] at hi;rw [hβ2 i' (fun j h=>h2 ⟨j,h⟩)] at nN;exact h.dis i i' b hi nN
 ·rcases hI.kn b o g hg with h7 | h7 | h7
  ·exact .inl h7
  ·exact .inr (.inl (H3 b h7))
  ·exact .inr (.inr h7)
end
section
variable {P:Program} {m:Nat} {Q:dQ} {fr:List GV} {Γ:List Ob} {ops:Array Oper} {rest:List Oper} {d:Option Tmp} {op:Op} {ty:TypeId} {pos:String} {af:Array Edge}
def seen (f:Nat->Nat) (Γ:List Ob):List Nat->List Ob->Prop
 | [],[]=>True
 | i::r,x::xs=>Γ[i]?=some (x.dr f)/\seen f Γ r xs
 | _,_=>False
theorem Ck {f:Nat->Nat} {Γ:List Ob} {n:Nat}:∀ {aK:List Nat} {gn:List Ob},seen f Γ aK gn->gn.length=aK.length/\∀ j x,gn[j]?=some x->Γ[bL aK n j]?=some (x.dr f)
 | [],[],_=>⟨rfl,fun j x h=>by simp at h⟩
 | i::r,y::ys,h=>by
  obtain ⟨h1,h2⟩:=h;obtain ⟨h3,h4⟩:=Ck (n:=n) h2;refine ⟨by simp [h3],fun j x hx=>?_⟩
  cases j with
  | zero=>cases hx;exact h1
  | succ j=>exact h4 j x hx
 | [],_::_,h=>h.elim
 | _::_,[],h=>h.elim
theorem GL.calls {f:FuncId} {aK:List Nat} {gs:List GV} {gn:List Ob} {R:GV->List Ob->Prop} {vs:List Value->List Value} (hr:∀ K β w l,FR K β fr l->aV K β (vs l) (kU (bL aK Γ.length) gs)/\(execOp (ev l) ⟨d,op,ty,pos,af,none⟩).run P w=.ok (.enter f (vs l).toArray) w)
  (eQ:gE aK Γ.length=true) (br:seen (bL aK Γ.length) Γ aK gn) (hc:GC P f gs gn R)
  (h:∀ g aH,R g aH->aK.length<=aH.length/\GL P m ops Q rest (bh fr d (dr (bL aK Γ.length) g)) (dL Γ aK (aH.map (Ob.dr (bL aK Γ.length))))) :
  GL P m ops Q (⟨d,op,ty,pos,af,none⟩::rest) fr Γ:=fun B K β w l hm hI hF=>by
 obtain ⟨hl,hs⟩:=Ck (n:=Γ.length) br;obtain ⟨ha,hr⟩:=hr K β w l hF;have Xd:=hI.enter eQ hl hs
 have zy:aV K (fun j=>β (bL aK Γ.length j)) (vs l) gs:=by
  rw [jo] at ha;exact ⟨by simpa using ha.1,fun i v g h5 h6=>(ha.2 i v (dr _ g) h5 (by rw [getElem?_map,h6];rfl)).z6⟩
 refine WL.calls hr (hc _ K _ w _ rfl Xd zy) ?_;rintro v w' ⟨K',zf,g,aH,be,eG,hR⟩;obtain ⟨iG,h⟩:=h g aH hR;obtain ⟨bP,hK,hB,pE,oo⟩:=hI.leave eQ hl iG be;refine h B K' bP w' _ hm oo ((hF.mono hK hB).put d (Rel.Ai ?_));rw [show (fun j=>bP (bL aK Γ.length j))=zf from funext pE];exact eG
theorem GL.qh {f:FuncId} [hf:aB P f] (aK:List Nat) {x:Operand} {first cap:List GV} {args:List Operand} {lR:Array TypeId} {gs:List GV} {gn:List Ob} {R:GV->List Ob->Prop} (hc:GC P f gs gn R) (hx:aP fr x=.fn (.func f) first cap) (ha:first++args.map (aP fr)++cap=kU (bL aK Γ.length) gs) (eQ:gE aK Γ.length=true)
  (br:seen (bL aK Γ.length) Γ aK gn) (h:∀ g aH,R g aH->aK.length<=aH.length/\GL P m ops Q rest (bh fr d (dr (bL aK Γ.length) g)) (dL Γ aK (aH.map (Ob.dr (bL aK Γ.length))))) :
  GL P m ops Q (⟨d,.call ⟨.value x,args.toArray,lR⟩,ty,pos,af,none⟩::rest) fr Γ :=
 GL.calls (vs:=fun l=>match ev l x with | .func _ a c=>a.toList++args.map (ev l)++c.toList | _=>[]) (fun K β w l hF=>by
  have hr:=hF.ev x;rw [hx] at hr;generalize hv:ev l x=v at hr
  cases hr with
  | fn _ xs ys _ _ h1 h2 h3 h4 =>
   refine ⟨?_,?_⟩
   ·rw [<-ha];exact (aV.app (aV.app ⟨h1,h3⟩ (hF.args args)) ⟨h2,h4⟩)
   ·simp [execOp,resolve,hv,Deferred.ofValue,invoke,kV]) eQ br hc h
theorem GL.Tl {f:FuncId} [hf:aB P f] (aK:List Nat) {x:Operand} {args:List Operand} {lR:Array TypeId} {gs:List GV} {gn:List Ob} {R:GV->List Ob->Prop} (hc:GC P f gs gn R) (hx:aP fr x=.v (.func (.func f) #[] #[])) (ha:args.map (aP fr)=kU (bL aK Γ.length) gs) (eQ:gE aK Γ.length=true)
  (br:seen (bL aK Γ.length) Γ aK gn) (h:∀ g aH,R g aH->aK.length<=aH.length/\GL P m ops Q rest (bh fr d (dr (bL aK Γ.length) g)) (dL Γ aK (aH.map (Ob.dr (bL aK Γ.length))))) :
  GL P m ops Q (⟨d,.call ⟨.value x,args.toArray,lR⟩,ty,pos,af,none⟩::rest) fr Γ :=
 GL.calls (vs:=fun l=>args.map (ev l)) (fun K β w l hF=>⟨by rw [<-ha];exact hF.args args,by
  have hv:=hF.gy hx
  simp [execOp,resolve,hv,Deferred.ofValue,invoke,kV]⟩) eQ br hc h
end
end Go.Xg
namespace Go.Xg
open Go.RowKit Go.Xw
def mz (ops:List Oper) (fr:List GV):Nat->Option (Option Bool):=fun j =>
 match iT ops j,(qR ops j).dst with
 | true,some t=>match iT fr t,cj fr t with
  | true,.v (.bool c)=>some (some c)
  | true,.v (.tuple _)=>some none
  | _,_=>none
 | _,_=>none
section
variable {P:Program} {m:Nat} {Q:dQ} {fr:List GV} {Γ:List Ob} {ops:Array Oper} {rest:List Oper} {d:Option Tmp} {op:Op} {ty:TypeId} {pos:String} {af:Array Edge}
theorem uj {K:Fz} {β:Bt} {l:List Value} {j:Nat} {b:Bool} {c:Option Bool} (hF:FR K β fr l) (h:mz ops.toList fr j=some c):BX (some (j,b)) ops.toList l=true/\gv ops.toList l (j,b)=c:=by
 unfold mz at h;split at h
 ·rename_i t h1 h2;split at h
  ·rename_i c' h3 h4;cases h;have hv:nth l t=.bool c':=Rel.eT (by rw [<-h4];exact hF.nth t);have hl:=lM hF h3;simp only [BX,gv,h1,h2,hl,hv,Bool.and_self];exact ⟨trivial,trivial⟩
  ·rename_i vs h3 h4;cases h;have hv:nth l t=.tuple vs:=Rel.eT (by rw [<-h4];exact hF.nth t);have hl:=lM hF h3;simp only [BX,gv,h1,h2,hl,hv,Bool.and_self];exact ⟨trivial,trivial⟩
  ·cases h
 ·cases h
theorem GL.gt {gd:Nat × Bool} {c:Bool} (hv:mz ops.toList fr gd.1=some (some c)) (hc:c=gd.2) (h:GL P m ops Q (⟨d,op,ty,pos,af,none⟩::rest) fr Γ):GL P m ops Q (⟨d,op,ty,pos,af,some gd⟩::rest) fr Γ:=fun B K β w l hm hI hF=>by
 obtain ⟨h1,h2⟩:=uj (b:=gd.2) hF hv;exact Xw.GT h1 h2 hc (h B K β w l hm hI hF)
theorem GL.gf {gd:Nat × Bool} {c:Bool} (hv:mz ops.toList fr gd.1=some (some c)) (hc:c=!gd.2) (h:GL P m ops Q rest (bh fr d (.v undef)) Γ):GL P m ops Q (⟨d,op,ty,pos,af,some gd⟩::rest) fr Γ:=fun B K β w l hm hI hF=>by
 obtain ⟨h1,h2⟩:=uj (b:=gd.2) hF hv;exact Xw.GF h1 h2 hc (h B K β w _ hm hI (hF.put d (.v _)))
theorem GL.gu {gd:Nat × Bool} (hv:mz ops.toList fr gd.1=some none) (h:GL P m ops Q rest (bh fr d (.v undef)) Γ):GL P m ops Q (⟨d,op,ty,pos,af,some gd⟩::rest) fr Γ:=fun B K β w l hm hI hF=>by
 obtain ⟨h1,h2⟩:=uj (b:=gd.2) hF hv;exact Xw.GU h1 h2 (h B K β w _ hm hI (hF.put d (.v _)))
end
def gG (ops:List Oper) (fr:List GV):Option (Nat × Bool)->Option Bool
 | none=>some true
 | some (j,b)=>match mz ops fr j with
  | some (some c)=>some (c==b)
  | some none=>some false
  | none=>none
theorem Ge {ops:Array Oper} {K:Fz} {β:Bt} {fr:List GV} {l:List Value} {o:Oper} {c:Bool} (hF:FR K β fr l) (h:gG ops.toList fr o.guard=some c):Region.wanted o (yielded ops (act l).tmps)=c:=by
 obtain ⟨d,op,ty,pos,af,gd⟩:=o
 cases gd with
 | none=>simp only [gG] at h;cases h;rfl
 | some gd =>
  obtain ⟨j,b⟩:=gd;simp only [gG] at h;split at h
  ·rename_i c' hc;cases h;obtain ⟨h1,h2⟩:=uj (b:=b) hF hc;rw [uZ h1]
   cases xY:(c'==b) with
   | true=>exact L0 h2 (by simpa using xY)
   | false=>exact LZ h2 (by cases c' <;> cases b <;> simp_all)
  ·rename_i hc;cases h;obtain ⟨h1,h2⟩:=uj (b:=b) hF hc;rw [uZ h1];exact L1 h2
  ·cases h
def Cd (P:Program) (o:Oper) (e:Operand->Value) (w:World) (Kv:Value->World->Prop):Prop :=
 match (execOp e o).run P w with
 | .ok (.value v) w'=>Kv v w'
 | .ok .skip w'=>Kv undef w'
 | .ok (.enter f args) w'=>Calls P f args w' fun e O9=>∃ v,e=.returned v/\Kv v O9
 | .ok (.row row args) w'=>Rows P row args w' Kv
 | _=>False
theorem Sy {P:Program} {o:Oper} {a:Act} {w:World} {Kv:Value->World->Prop} {next:Act->World->Prop} {Q:Exit->Act->World->Prop} (h:Cd P o a.eval w Kv) (hn:∀ v w',Kv v w'->next (a.put o.dst v) w'):o.wp P a w next Q:=by
 unfold Cd at h;unfold Oper.wp;generalize (execOp a.eval o).run P w=r at *
 cases r with
 | ok n w' =>
  cases n <;> simp only [Oper.upon] at h |- <;> first
   | exact hn _ _ h
   | exact Calls.mono h (fun e O9 ⟨v,he,hv⟩=>by subst he;exact hn _ _ hv)
   | exact Rows.mono h (fun _ _ hv=>hn _ _ hv)
   | exact h.elim
 | halt x w'=>exact h.elim
theorem S6 {P:Program} {o:Oper} {a:Act} {w:World} {Kv:Value->World->Prop} {next:Act->World->Prop} {Q:Exit->Act->World->Prop} (h:o.wp P a w next Q) (hQ:∀ c a w,¬ Q (.panic c) a w) (Xf:∀ a w,¬ Q .outgrown a w) (hn:∀ v w',next (a.put o.dst v) w'->Kv v w')
  (hd:∀ d w',¬ next ({ a with defers:=d::a.defers }.put o.dst undef) w'):Cd P o a.eval w Kv:=by
 unfold Cd;unfold Oper.wp at h;generalize (execOp a.eval o).run P w=r at *
 cases r with
 | ok n w' =>
  cases n <;> simp only [Oper.upon] at h |- <;> first
   | exact hn _ _ h
   | exact Calls.mono h (fun e O9 he=>by
     cases e with
     | returned v=>exact ⟨v,rfl,hn _ _ he⟩
     | panicked c=>exact (hQ _ _ _ he).elim
     | outgrown=>obtain ⟨a0,w0,hf⟩:=he;exact (Xf _ _ hf).elim)
   | exact Rows.mono h (fun _ _ hv=>hn _ _ hv)
   | exact h.elim
   | exact absurd h (hd _ _)
 | halt x w' =>
  cases x <;> simp only [Oper.upon] at h
  exact (hQ _ _ _ h).elim
def cw (ts:List Nat):Nat->List GV->List GV
 | _,[]=>[]
 | k,g::gs=>(match ts.contains k with | true=>g | false=>.Zy)::cw ts (k+1) gs
theorem FR.mask {K:Fz} {β:Bt} {ts:List Nat} {fr:List GV} {l:List Value} (h:FR K β fr l):∀ k,FR K β (cw ts k fr) l:=by
 induction h with
 | nil=>intro k;exact .nil
 | cons h t ih =>
  intro k;rw [cw];split
  ·exact .cons h (ih _)
  ·exact .cons (.Zy _) (ih _)
theorem Ns {ts:List Nat} {d:Option Tmp} {g:GV} (hd:∀ t,d=some t->t ∉ ts) (fr:List GV):cw ts 0 (bh fr d g)=cw ts 0 fr:=by
 cases d with
 | none=>rfl
 | some t =>
  have hd:=hd t rfl
  have gen:∀ (fr:List GV) (k t:Nat),k+t ∉ ts->cw ts k (bj fr t g)=cw ts k fr:=by
   intro fr
   induction fr with
   | nil=>intro k t _;rfl
   | cons x fr ih =>
    intro k t h
    cases t with
    | zero =>
     have hc:ts.contains k=false:=by
      cases hb:ts.contains k with
      | false=>rfl
      | true=>exact absurd (List.contains_iff_mem.1 hb) (by simpa using h)
     simp only [bj,cw,hc]
    | succ t=>simp only [bj,cw];rw [ih (k+1) t (by rw [show k+1+t=k+(t+1) by omega];exact h)]
  exact gen fr 0 t (by simpa using hd)
section
variable {P:Program} {ops:Array Oper}
def YQ (P:Program) (ops:Array Oper) (i:Nat) (g:GV) (fr:List GV) (Γ:List Ob):Prop :=
 ∃ o c,ops[i]?=some o/\gG ops.toList (cw (o.looksAt ops) 0 fr) o.guard=some c/\match c with
  | true=>YG P o.op (cw (o.looksAt ops) 0 fr) Γ g
  | false=>g=.v undef
abbrev kj:=List (Nat × GV × List GV)
def GA (P:Program) (o:Oper) (Kt:GV->List Ob->Prop) (fr:List GV) (Γ:List Ob):Prop :=
 ∀ B K β w l,Inv B K β Γ w->FR K β fr l->Cd P o (ev l) w fun v w'=>∃ K' bP g aH,cm K K'/\dc β bP/\Inv B K' bP aH w'/\(∀ fr l,FR K' bP fr l->FR K' bP (bh fr o.dst g) (put l o.dst v))/\Kt g aH
def GI (P:Program) (ops:Array Oper) (i:Nat) (Kt:GV->List Ob->Prop) (fr:List GV) (Γ:List Ob):Prop :=
 ∃ o c,ops[i]?=some o/\gG ops.toList fr o.guard=some c/\match c with
  | true=>GA P o Kt fr Γ
  | false=>Kt (.v undef) Γ
def ko (ops:Array Oper) (i:Nat):Option Tmp:=(ops[i]?).bind (·.dst)
def waits (ops:Array Oper) (i j:Nat):Bool:=match ops[i]? with
 | some o=>o.after.any fun e=>Region.binds .any e&&e.on==j
 | none=>false
def stay (ops:Array Oper) (i:Nat) (aQ:kj):kj:=aQ.filter fun p=>!waits ops i p.1
def oD (P:Program) (ops:Array Oper) (Q:List GV->List Ob->Prop):Nat->kj->Array Bool->List GV->List Ob->Prop
 | 0,_,listed,fr,Γ=>Region.ready .any ops listed=[]/\Q fr Γ
 | n+1,aQ,listed,fr,Γ=>(Region.ready .any ops listed=[]->Q fr Γ) /\
   ∀ i∈Region.ready .any ops listed,GI P ops i (fun g aH=>(∀ p∈stay ops i aQ,YQ P ops p.1 p.2.1 p.2.2 aH)/\oD P ops Q n (stay ops i aQ) (listed.setIfInBounds i true) (bh fr (ko ops i) g) aH) fr Γ
theorem GA.mono {o:Oper} {Kt CU:GV->List Ob->Prop} {fr:List GV} {Γ:List Ob} (h:GA P o Kt fr Γ) (hk:∀ g aH,Kt g aH->CU g aH):GA P o CU fr Γ:=fun B K β w l hI hF=>by
 have:=h B K β w l hI hF;unfold Cd at *;generalize (execOp (ev l) o).run P w=r at *
 have key:∀ v w',(∃ K' bP g aH,cm K K'/\dc β bP/\Inv B K' bP aH w'/\(∀ fr l,FR K' bP fr l->FR K' bP (bh fr o.dst g) (put l o.dst v))/\Kt g aH)->∃ K' bP g aH,cm K K'/\dc β bP/\Inv B K' bP aH w'/\(∀ fr l,FR K' bP fr l->FR K' bP (bh fr o.dst g) (put l o.dst v))/\CU g aH :=
  fun v w' ⟨K',bP,g,aH,h1,h2,h3,h4,h5⟩=>⟨K',bP,g,aH,h1,h2,h3,h4,hk _ _ h5⟩
 cases r with
 | ok n w'=>cases n <;> simp only at this |- <;> first
   | exact key _ _ this
   | exact Calls.mono this (fun e O9 ⟨v,he,hv⟩=>⟨v,he,key _ _ hv⟩)
   | exact Rows.mono this (fun _ _ hv=>key _ _ hv)
   | exact this.elim
 | halt x w'=>exact this.elim
theorem GI.mono {i:Nat} {Kt CU:GV->List Ob->Prop} {fr:List GV} {Γ:List Ob} (h:GI P ops i Kt fr Γ) (hk:∀ g aH,Kt g aH->CU g aH):GI P ops i CU fr Γ:=by
 obtain ⟨o,c,h1,h2,h3⟩:=h;refine ⟨o,c,h1,h2,?_⟩
 cases c with
 | true=>exact GA.mono h3 hk
 | false=>exact hk _ _ h3
theorem oD.Om {Q:List GV->List Ob->Prop}:∀ (n:Nat) (aQ dE:kj) (listed:Array Bool) (fr:List GV) (Γ:List Ob),(∀ p∈dE,p∈aQ)->oD P ops Q n aQ listed fr Γ->oD P ops Q n dE listed fr Γ
 | 0,_,_,_,_,_,_,h=>h
 | n+1,aQ,dE,listed,fr,Γ,hs,h=>⟨h.1,fun i hi=>(h.2 i hi).mono fun g aH ⟨h1,h2⟩=>by
  have nr:∀ p∈stay ops i dE,p∈stay ops i aQ:=fun p hp=>by
   simp only [stay,mem_filter] at hp |-;exact ⟨hs p hp.1,hp.2⟩
  exact ⟨fun p hp=>h1 p (nr p hp),oD.Om n _ _ _ _ _ nr h2⟩⟩
theorem oD.sound {m:Nat} {Q:List GV->List Ob->Prop} {B:Bs} {Q':dQ} (hm:B.m=m) (hQ:∀ fr Γ,Q fr Γ->Q' .normal fr Γ):∀ (n:Nat) (aQ:kj) (listed:Array Bool) (fr:List GV) (Γ:List Ob) (K:Fz) (β:Bt) (w:World) (l:List Value),
  oD P ops Q n aQ listed fr Γ->Inv B K β Γ w->FR K β fr l->wpAny P .any ops (lift (gl B Q')) n listed (act l) w
 | 0,_,_,fr,Γ,K,β,w,l,h,hI,hF=>⟨h.1,l,rfl,K,β,fr,Γ,hI,hF,hQ _ _ h.2⟩
 | n+1,aQ,listed,fr,Γ,K,β,w,l,h,hI,hF=>by
  refine ⟨fun h0=>⟨l,rfl,K,β,fr,Γ,hI,hF,hQ _ _ (h.1 h0)⟩,fun i hi=>?_⟩;obtain ⟨o,c,ho,hg,hc⟩:=h.2 i hi;have hw:=Ge hF hg;unfold wpOp;simp only [ho,hw]
  have hd:ko ops i=o.dst:=by simp [ko,ho]
  cases c with
  | true =>
   simp only [if_true];refine .inl (Sy (by rw [mq];exact hc B K β w l hI hF) ?_);rintro v w' ⟨K',bP,g,aH,hK,hB,be,hf,h1,h2⟩;rw [oe];rw [hd] at h2;exact oD.sound hm hQ n _ _ _ _ K' bP w' _ h2 be (hf _ _ (hF.mono hK hB))
  | false =>
   simp only [Bool.false_eq_true,if_false];rw [oe];obtain ⟨h1,h2⟩:=hc;rw [hd] at h2;exact oD.sound hm hQ n _ _ _ _ K β w _ h2 hI (hF.put o.dst (.v _))
theorem Fi {fr:List GV} {t t':Nat} (h:t'≠t) (g:GV):cj (bj fr t g) t'=cj fr t':=by
 induction fr generalizing t t' with
 | nil=>rfl
 | cons x l ih=>cases t with
  | zero=>cases t' with | zero=>exact absurd rfl h | succ t'=>rfl
  | succ t=>cases t' with | zero=>rfl | succ t'=>exact ih (fun e=>h (by rw [e]))
theorem GB {fr:List GV} {t t':Nat} {g:GV}:iT (bj fr t g) t'=iT fr t':=by
 induction fr generalizing t t' with
 | nil=>rfl
 | cons x l ih=>cases t with
  | zero=>cases t' <;> rfl
  | succ t=>cases t' with | zero=>rfl | succ t'=>exact ih
theorem Q3 {o:Oper} {fr:List GV} {d:Option Tmp} {g:GV} (h:∀ t,d=some t->t ∉ o.looksAt ops):gG ops.toList (bh fr d g) o.guard=gG ops.toList fr o.guard:=by
 cases d with
 | none=>rfl
 | some t =>
  have h:=h t rfl;obtain ⟨d',op,ty,pos,af,gd⟩:=o
  cases gd with
  | none=>rfl
  | some gd =>
   obtain ⟨j,b⟩:=gd
   have bO:∀ t',iT ops.toList j=true->(qR ops.toList j).dst=some t'->t'≠t:=fun t' hj DG he=>by
    subst he;apply h;have ll:=G2 ops.toList j (zO hj);simp only [Array.toArray_toList] at ll;simp [Oper.looksAt,ll,DG]
   have hv:mz ops.toList (bj fr t g) j=mz ops.toList fr j:=by
    unfold mz
    cases gz:iT ops.toList j with
    | false=>rfl
    | true =>
     cases hd:(qR ops.toList j).dst with
     | none=>rfl
     | some t' =>
      simp only;rw [GB,Fi (bO t' gz hd)]
   simp only [gG,bh,hv]
theorem YQ.at {i:Nat} {g:GV} {fr:List GV} {Γ:List Ob} {o:Oper} (h:YQ P ops i g fr Γ) (ho:ops[i]?=some o) {B:Bs} {K:Fz} {β:Bt} {w:World} {l:List Value} (hI:Inv B K β Γ w) (hF:FR K β fr l):∃ v,Rel K β v g/\((Region.wanted o (yielded ops (act l).tmps)=true/\(execOp (ev l) o).run P w=.ok (.value v) w)\/(Region.wanted o (yielded ops (act l).tmps)=false/\v=undef)):=by
 obtain ⟨o',c,h1,h2,h3⟩:=h;rw [ho] at h1;cases h1;have hw:=Ge (hF.mask (ts:=o.looksAt ops) 0) h2
 cases c with
 | true =>
  obtain ⟨v,hr,hv⟩:=h3 B K β w l hI (hF.mask 0);exact ⟨v,hv,.inl ⟨hw,by obtain ⟨d,op,ty,pos,af,gd⟩:=o;exact hr d ty pos af⟩⟩
 | false=>subst h3;exact ⟨undef,.v _,.inr ⟨hw,rfl⟩⟩
theorem GI.comm {i j:Nat} {g:GV} {oi oj:Oper} {Kt:GV->List Ob->Prop} {fr:List GV} {Γ:List Ob} (hi:ops[i]?=some oi) (hj:ops[j]?=some oj) (Oz:oi.apart ops oj=true) (XS:∀ cs b,oj.op≠.select cs b) (hy:YQ P ops i g fr Γ)
  (h:GI P ops j Kt (bh fr oi.dst g) Γ):GI P ops j Kt fr Γ:=by
 obtain ⟨a1,a2,a3⟩:=Oper.apart_spec Oz;obtain ⟨o,c,h1,h2,h3⟩:=h;rw [hj] at h1;cases h1;rw [Q3 a1] at h2;refine ⟨oj,c,hj,h2,?_⟩
 cases c with
 | false=>exact h3
 | true =>
  intro B K β w l hI hF;obtain ⟨v,hv,_⟩:=hy.at hi hI hF;have:=h3 B K β w (put l oi.dst v) hI (hF.put _ hv)
  have he:execOp (ev (put l oi.dst v)) oj=execOp (ev l) oj:=by
   have:=execOp_put oj XS (act l) oi.dst v a1;rw [oe,mq,mq] at this;exact this
  unfold Cd at this |-;rw [he] at this;exact this
theorem oD.first {Q:List GV->List Ob->Prop} {i:Nat} {oi:Oper} {g:GV} {nK:List GV} (hi:ops[i]?=some oi) (Wa:∀ (j:Nat) (o:Oper) cs b,ops[j]?=some o->o.op≠.select cs b) :
  ∀ (n:Nat) (aQ:kj) (listed:Array Bool) (fr:List GV) (Γ:List Ob),
   (∀ j oj,ops[j]?=some oj->j≠i->listed.getD j true=false->(∀ e∈oj.after,Region.binds .any e=true->e.on≠i)->oi.apart ops oj=true) ->
   i∈Region.ready .any ops listed->cw (oi.looksAt ops) 0 fr=cw (oi.looksAt ops) 0 nK->YQ P ops i g nK Γ->(∀ p∈aQ,YQ P ops p.1 p.2.1 p.2.2 Γ) ->
   oD P ops Q n ((i,g,nK)::aQ) (listed.setIfInBounds i true) (bh fr oi.dst g) Γ->oD P ops Q (n+1) aQ listed fr Γ:=by
 have hd:ko ops i=oi.dst:=by simp [ko,hi]
 have S2:∀ {fr:List GV} {Γ:List Ob},cw (oi.looksAt ops) 0 fr=cw (oi.looksAt ops) 0 nK->YQ P ops i g nK Γ->YQ P ops i g fr Γ:=by
  rintro fr Γ hm ⟨o,c,h1,h2,h3⟩;rw [hi] at h1;cases h1;exact ⟨oi,c,hi,by rw [hm];exact h2,by rw [hm];exact h3⟩
 have self:∀ (n:Nat) (aQ:kj) (listed:Array Bool) (fr:List GV) (Γ:List Ob),cw (oi.looksAt ops) 0 fr=cw (oi.looksAt ops) 0 nK->YQ P ops i g nK Γ->(∀ p∈aQ,YQ P ops p.1 p.2.1 p.2.2 Γ) ->
   oD P ops Q n ((i,g,nK)::aQ) (listed.setIfInBounds i true) (bh fr oi.dst g) Γ ->
   GI P ops i (fun g aH=>(∀ p∈stay ops i aQ,YQ P ops p.1 p.2.1 p.2.2 aH)/\oD P ops Q n (stay ops i aQ) (listed.setIfInBounds i true) (bh fr (ko ops i) g) aH) fr Γ:=by
  intro n aQ listed fr Γ rW hy hp H
  have bE:∀ p∈stay ops i aQ,p∈aQ:=fun p hp=>by simp only [stay,mem_filter] at hp;exact hp.1
  have H':oD P ops Q n (stay ops i aQ) (listed.setIfInBounds i true) (bh fr (ko ops i) g) Γ:=by
   rw [hd];exact oD.Om n _ _ _ _ _ (fun p hp=>mem_cons_of_mem _ (bE p hp)) H
  obtain ⟨o,c,h1,h2,h3⟩:=S2 rW hy;rw [hi] at h1;cases h1
  have pk:gG ops.toList fr oi.guard=some c:=by
   obtain ⟨d',op,ty,pos,af,gd⟩:=oi
   cases gd with
   | none=>exact h2
   | some gd =>
    obtain ⟨j,b⟩:=gd;simp only [gG] at h2 |-
    have hv:∀ x,mz ops.toList (cw (Oper.looksAt ops ⟨d',op,ty,pos,af,some (j,b)⟩) 0 fr) j=some x->mz ops.toList fr j=some x:=by
     intro x hx;unfold mz at hx |-
     cases gz:iT ops.toList j with
     | false=>rw [gz] at hx;cases hx
     | true =>
      rw [gz] at hx
      cases hdt:(qR ops.toList j).dst with
      | none=>rw [hdt] at hx;cases hx
      | some t =>
       rw [hdt] at hx;simp only at hx |-
       have wA:∀ (ts:List Nat) (fr:List GV) (k t:Nat),iT (cw ts k fr) t=iT fr t:=by
        intro ts fr
        induction fr with
        | nil=>intro k t;rfl
        | cons x fr ih=>intro k t;cases t with | zero=>rfl | succ t=>exact ih (k+1) t
       have Xr:∀ (ts:List Nat) (fr:List GV) (k t:Nat) ,cj (cw ts k fr) t=cj fr t\/cj (cw ts k fr) t=.Zy:=by
        intro ts fr
        induction fr with
        | nil=>intro k t;exact .inl rfl
        | cons x fr ih =>
         intro k t
         cases t with
         | zero=>simp only [cw,cj];split <;> first | exact .inl rfl | exact .inr rfl
         | succ t=>exact ih (k+1) t
       rw [wA] at hx
       rcases Xr (Oper.looksAt ops ⟨d',op,ty,pos,af,some (j,b)⟩) fr 0 t with h | h
       ·rw [h] at hx;exact hx
       ·rw [h] at hx
        split at hx <;> first | (rename_i h5;cases h5;done) | cases hx
    split at h2
    ·rename_i c' hc;rw [hv _ hc];exact h2
    ·rename_i hc;rw [hv _ hc];exact h2
    ·cases h2
  refine ⟨oi,c,hi,pk,?_⟩
  have kB:∀ p∈stay ops i aQ,YQ P ops p.1 p.2.1 p.2.2 Γ:=fun p hq=>hp p (bE p hq)
  cases c with
  | true =>
   intro B K β w l hI hF;obtain ⟨v,hr,hv⟩:=h3 B K β w l hI (hF.mask 0)
   have l0:(execOp (ev l) oi).run P w=.ok (.value v) w:=by obtain ⟨d,op,ty,pos,af,gd⟩:=oi;exact hr d ty pos af
   unfold Cd;rw [l0];exact ⟨K,β,g,Γ,cm.refl K,dc.refl β,hI,fun fr l hf=>hf.put _ hv,kB,H'⟩
  | false =>
   simp only at h3;subst h3;exact ⟨kB,H'⟩
 intro n
 induction n with
 | zero =>
  intro aQ listed fr Γ _ hr rW hy hp H;refine ⟨fun h=>(by rw [h] at hr;cases hr),fun j hj=>?_⟩
  by_cases hji:j=i
  ·subst hji;exact self 0 aQ listed fr Γ rW hy hp H
  ·have:=ready_mono hj hji;rw [H.1] at this;cases this
 | succ n ih =>
  intro aQ listed fr Γ OC hr rW hy hp H;refine ⟨fun h=>(by rw [h] at hr;cases hr),fun j hj=>?_⟩
  by_cases hji:j=i
  ·subst hji;exact self (n+1) aQ listed fr Γ rW hy hp H
  ·have h1:=H.2 j (ready_mono hj hji);obtain ⟨RD,oj,Kw,aM⟩:=mem_ready.1 hj
   have RM:∀ e∈oj.after,Region.binds .any e=true->e.on≠i:=fun e he hb heq=>by
    have h1:=aM e he hb;have h0:=(mem_ready.1 hr).1;rw [heq] at h1
    rcases Nat.lt_or_ge i listed.size with h' | h'
    ·simp [h'] at h0 h1;rw [h0] at h1;cases h1
    ·simp [Array.getElem?_eq_none h'] at h1
   have Oz:=OC j oj Kw hji RD RM;obtain ⟨a1,a2,a3⟩:=Oper.apart_spec Oz
   have qW:waits ops j i=false:=by
    simp only [waits,Kw];rw [Array.any_eq_false'];intro e he hb;simp only [Bool.and_eq_true,beq_iff_eq] at hb;exact RM e he hb.1 hb.2
   have bE:stay ops j ((i,g,nK)::aQ)=(i,g,nK)::stay ops j aQ:=by
    simp [stay,List.filter_cons,qW]
   rw [bE] at h1;have h2:=GI.comm hi Kw Oz (fun cs b=>Wa j oj cs b Kw) (S2 rW hy) h1
   have UN:ko ops j=oj.dst:=by simp [ko,Kw]
   have RA:∀ k ok,ops[k]?=some ok->k≠i->(listed.setIfInBounds j true).getD k true=false ->
     (∀ e∈ok.after,Region.binds .any e=true->e.on≠i)->oi.apart ops ok=true:=fun k ok hk cz U2 bV=>by
    refine OC k ok hk cz ?_ bV
    by_cases hjk:j=k
    ·subst hjk;exact RD
    ·rw [getD_set_ne true hjk] at U2;exact U2
   refine h2.mono fun gj aH ⟨h3,h4⟩=>⟨fun p hp=>h3 p (mem_cons_of_mem _ hp),?_⟩
   refine ih (stay ops j aQ) (listed.setIfInBounds j true) (bh fr (ko ops j) gj) aH RA (ready_mono hr (Ne.symm hji)) ?_ (h3 (i,g,nK) (mem_cons_self)) (fun p hp=>h3 p (mem_cons_of_mem _ hp)) ?_
   ·rw [<-rW,UN];exact Ns a3 fr
   ·rw [Array.setIfInBounds_comm _ _ hji]
    have TC:bh (bh fr (ko ops j) gj) oi.dst g=bh (bh fr oi.dst g) (ko ops j) gj:=by
     rw [UN]
     cases hdi:oi.dst with
     | none=>rfl
     | some t =>
      cases hdj':oj.dst with
      | none=>rfl
      | some u =>
       have bO:t≠u:=fun e=>a2 t hdi (by rw [hdj',e])
       have gen:∀ (fr:List GV) (t u:Nat),t≠u->bj (bj fr u gj) t g=bj (bj fr t g) u gj:=by
        intro fr
        induction fr with
        | nil=>intro t u _;rfl
        | cons x fr ih =>
         intro t u h
         cases t with
         | zero=>cases u with | zero=>exact absurd rfl h | succ u=>rfl
         | succ t=>cases u with | zero=>rfl | succ u=>simp only [bj];rw [ih t u (fun e=>h (by rw [e]))]
       exact gen fr t u bO
    rw [TC];exact h4
inductive Ot where
 | nil
 | q (i:Nat) (r:Ot)
 | a (i:Nat) (r:Ot)
 | f (i:Nat) (r:Ot) (j:Nat) (s:Ot)
def Ot.len:Ot->Nat
 | .nil=>0
 | .q _ r=>r.len+1
 | .a _ r=>r.len+1
 | .f _ r _ _=>r.len+1
def tM (ops:Array Oper):Ot->Array Bool->Bool
 | .nil,listed=>(Region.ready .any ops listed).isEmpty
 | .q i r,listed=>(Region.ready .any ops listed).contains i&&Region.free .any ops listed i&&tM ops r (listed.setIfInBounds i true)
 | .a i r,listed=>(Region.ready .any ops listed==[i])&&tM ops r (listed.setIfInBounds i true)
 | .f i r j s,listed=>(Region.ready .any ops listed==[i,j])&&tM ops r (listed.setIfInBounds i true)&&tM ops s (listed.setIfInBounds j true)&&(r.len==s.len)
def GO (P:Program) (ops:Array Oper) (Q:List GV->List Ob->Prop):Ot->kj->List GV->List Ob->Prop
 | .nil,_,fr,Γ=>Q fr Γ
 | .q i r,aQ,fr,Γ=>∃ g,YQ P ops i g fr Γ/\GO P ops Q r ((i,g,fr)::aQ) (bh fr (ko ops i) g) Γ
 | .a i r,aQ,fr,Γ=>GI P ops i (fun g aH=>(∀ p∈stay ops i aQ,YQ P ops p.1 p.2.1 p.2.2 aH)/\GO P ops Q r (stay ops i aQ) (bh fr (ko ops i) g) aH) fr Γ
 | .f i r j s,aQ,fr,Γ=>GI P ops i (fun g aH=>(∀ p∈stay ops i aQ,YQ P ops p.1 p.2.1 p.2.2 aH)/\GO P ops Q r (stay ops i aQ) (bh fr (ko ops i) g) aH) fr Γ/\GI P ops j (fun g aH=>(∀ p∈stay ops j aQ,YQ P ops p.1 p.2.1 p.2.2 aH)/\GO P ops Q s (stay ops j aQ) (bh fr (ko ops j) g) aH) fr Γ
theorem GO.fork {ops:Array Oper} {Q:List GV->List Ob->Prop} {i j:Nat} {r s:Ot} {aQ:kj} {fr:List GV} {Γ:List Ob} (h1:GO P ops Q (.a i r) aQ fr Γ) (h2:GO P ops Q (.a j s) aQ fr Γ):GO P ops Q (.f i r j s) aQ fr Γ:=⟨h1,h2⟩
theorem GO.all {ol:List Oper} {Q:List GV->List Ob->Prop} (hs:Region.noSelect ol.toArray=true):∀ (ord:Ot) (aQ:kj) (listed:Array Bool) (fr:List GV) (Γ:List Ob),
  tM ol.toArray ord listed=true->(∀ p∈aQ,YQ P ol.toArray p.1 p.2.1 p.2.2 Γ)->GO P ol.toArray Q ord aQ fr Γ->oD P ol.toArray Q ord.len aQ listed fr Γ
 | .nil,aQ,listed,fr,Γ,ho,_,h=>⟨by simpa [tM] using ho,h⟩
 | .q i r,aQ,listed,fr,Γ,ho,hp,h=>by
  simp only [tM,Bool.and_eq_true] at ho;obtain ⟨⟨hr,hf⟩,ho⟩:=ho;obtain ⟨g,hy,h⟩:=h
  have AU:i∈Region.ready .any ol.toArray listed:=by simpa using hr
  obtain ⟨_,o,hi,_⟩:=mem_ready.1 AU
  have hd:ko ol.toArray i=o.dst:=by simp only [ko,hi];rfl
  rw [hd] at h
  exact oD.first hi (Region.noSelect_spec hs) _ aQ listed fr Γ (Region.free_spec hi hf) AU rfl hy hp (GO.all hs r _ _ _ _ ho (fun p kB=>by
   rcases List.mem_cons.1 kB with rfl | kB
   ·exact hy
   ·exact hp p kB) h)
 | .a i r,aQ,listed,fr,Γ,ho,hp,h=>by
  simp only [tM,Bool.and_eq_true,beq_iff_eq] at ho;obtain ⟨hr,ho⟩:=ho;refine ⟨fun h0=>by rw [h0] at hr;simp at hr,fun j hj=>?_⟩;rw [hr,List.mem_singleton] at hj;subst hj
  exact GI.mono h fun g aH ⟨h1,h2⟩=>⟨h1,GO.all hs r _ _ _ _ ho h1 h2⟩
 | .f i r j s,aQ,listed,fr,Γ,ho,hp,h=>by
  simp only [tM,Bool.and_eq_true,beq_iff_eq] at ho;obtain ⟨⟨⟨hr,XK⟩,XL⟩,hl⟩:=ho;refine ⟨fun h0=>by rw [h0] at hr;simp at hr,fun k hk=>?_⟩;rw [hr] at hk;simp only [List.mem_cons,List.not_mem_nil,or_false] at hk
  rcases hk with rfl | rfl
  ·exact GI.mono h.1 fun g aH ⟨h1,h2⟩=>⟨h1,GO.all hs r _ _ _ _ XK h1 h2⟩
  ·exact GI.mono h.2 fun g aH ⟨h1,h2⟩=>⟨h1,by
    have:=GO.all hs s _ _ _ _ XL h1 h2
    rw [<-hl] at this;exact this⟩
theorem GW.draw {m id:Nat} {ol:List Oper} {Q:dQ} {fr:List GV} {Γ:List Ob} (ord:Ot) (hm:P.follows .mixedOrders=true)
  (eQ:(Region.noSelect ol.toArray&&(ord.len==ol.length)&&tM ol.toArray ord (Array.replicate ol.toArray.size false))=true)
  (h:GO P ol.toArray (Q .normal) ord [] fr Γ):GW P m (.region id ol.toArray true) Q fr Γ:=fun B K β w l hB hI hF=>by
 simp only [Bool.and_eq_true,beq_iff_eq] at eQ;obtain ⟨⟨hs,hl⟩,ho⟩:=eQ;refine wp_region_any hm ?_;have h1:=GO.all hs ord [] _ fr Γ ho (fun p hp=>by cases hp) h;rw [hl] at h1;have h2:=oD.sound (Q':=Q) hB (fun fr Γ h=>h) _ _ _ _ _ K β w.drew l h1 (hI.same (Ext.drew w)) hF;simpa using h2
end
end Go.Xg
namespace Go.Xg
open Go.RowKit Go.Xw
def iK:List Oper->Nat->Option Oper
 | [],_=>none
 | o::_,0=>some o
 | _::r,n+1=>iK r n
theorem pN {ol:List Oper} {i:Nat} {o:Oper} (h:iK ol i=some o):ol.toArray[i]?=some o:=by
 have:∀ (ol:List Oper) (i:Nat),iK ol i=ol[i]?:=by
  intro ol
  induction ol with
  | nil=>intro i;rfl
  | cons x ol ih=>intro i;cases i with | zero=>rfl | succ i=>simpa [iK] using ih i
 rw [this] at h;simpa using h
section
variable {P:Program} {Q:List GV->List Ob->Prop} {ol:List Oper} {r:Ot} {aQ:kj} {fr:List GV} {Γ:List Ob} {i:Nat} {g:GV} {d:Option Tmp} {op:Op} {ty:TypeId} {pos:String} {af:Array Edge} {gd:Nat × Bool}
theorem ue {o:Oper} (h:iK ol i=some o):ko ol.toArray i=o.dst:=by simp only [ko,pN h];rfl
theorem GO.more {ops:Array Oper}:∀ (r:Ot) (aQ dE:kj) (fr:List GV) (Γ:List Ob),(∀ p∈dE,p∈aQ\/∀ Γ,YQ P ops p.1 p.2.1 p.2.2 Γ)->GO P ops Q r aQ fr Γ->GO P ops Q r dE fr Γ
 | .nil,_,_,_,_,_,h=>h
 | .q i r,aQ,dE,fr,Γ,hs,⟨g,h1,h2⟩=>⟨g,h1,GO.more r _ _ _ _ (fun p hp=>by
   rcases List.mem_cons.1 hp with rfl | hp
   ·exact .inl (mem_cons_self)
   ·exact (hs p hp).imp (mem_cons_of_mem _) id) h2⟩
 | .a i r,aQ,dE,fr,Γ,hs,h=>GI.mono h fun g aH ⟨h1,h2⟩=>by
   have nr:∀ p∈stay ops i dE,p∈stay ops i aQ\/∀ Γ,YQ P ops p.1 p.2.1 p.2.2 Γ:=fun p hp=>by
    simp only [stay,mem_filter] at hp |-;exact (hs p hp.1).imp (fun h=>⟨h,hp.2⟩) id
   exact ⟨fun p hp=>(nr p hp).elim (h1 p) (fun h=>h aH),GO.more r _ _ _ _ nr h2⟩
 | .f i r j s,aQ,dE,fr,Γ,hs,h=>by
   have nr:∀ k,∀ p∈stay ops k dE,p∈stay ops k aQ\/∀ Γ,YQ P ops p.1 p.2.1 p.2.2 Γ:=fun k p hp=>by
    simp only [stay,mem_filter] at hp |-;exact (hs p hp.1).imp (fun h=>⟨h,hp.2⟩) id
   exact ⟨GI.mono h.1 fun g aH ⟨h1,h2⟩=>⟨fun p hp=>(nr i p hp).elim (h1 p) (fun h=>h aH),GO.more r _ _ _ _ (nr i) h2⟩,GI.mono h.2 fun g aH ⟨h1,h2⟩=>⟨fun p hp=>(nr j p hp).elim (h1 p) (fun h=>h aH),GO.more s _ _ _ _ (nr j) h2⟩⟩
theorem GO.skip {ops:Array Oper} {x:Nat × GV × List GV} (hx:∀ Γ,YQ P ops x.1 x.2.1 x.2.2 Γ) (h:GO P ops Q r aQ fr Γ):GO P ops Q r (x::aQ) fr Γ:=by
 refine GO.more r aQ _ fr Γ (fun p hp=>?_) h
 rcases List.mem_cons.1 hp with he | hp
 ·subst he;exact .inr hx
 ·exact .inl hp
theorem GO.yq {o:Oper} (hi:iK ol i=some o) (hy:YQ P ol.toArray i g fr Γ) (h:GO P ol.toArray Q r ((i,g,fr)::aQ) (bh fr o.dst g) Γ):GO P ol.toArray Q (.q i r) aQ fr Γ :=
 ⟨g,hy,by rw [ue hi];exact h⟩
theorem GO.yp {o:Oper} (hi:iK ol i=some o) (hy:∀ Γ,YQ P ol.toArray i g fr Γ) (h:GO P ol.toArray Q r aQ (bh fr o.dst g) Γ):GO P ol.toArray Q (.q i r) aQ fr Γ :=
 GO.yq hi (hy Γ) (GO.skip hy h)
theorem AO {c:Bool} {ops:List Oper} (hv:mz ops fr gd.1=some (some c)) (hc:c=gd.2):gG ops fr (some gd)=some true:=by
 obtain ⟨j,b⟩:=gd;simp only at hv hc;simp only [gG,hv,hc];simp
theorem De {c:Bool} {ops:List Oper} (hv:mz ops fr gd.1=some (some c)) (hc:c=!gd.2):gG ops fr (some gd)=some false:=by
 obtain ⟨j,b⟩:=gd;simp only at hv hc;simp only [gG,hv,hc];simp
theorem Q4 {ops:List Oper} (hv:mz ops fr gd.1=some none):gG ops fr (some gd)=some false:=by
 obtain ⟨j,b⟩:=gd;simp only at hv;simp only [gG,hv]
theorem YQ.t {o:Oper} (hi:iK ol i=some o) (hg:gG ol (cw (o.looksAt ol.toArray) 0 fr) o.guard=some true) (hy:YG P o.op (cw (o.looksAt ol.toArray) 0 fr) Γ g):YQ P ol.toArray i g fr Γ:=⟨o,true,pN hi,hg,hy⟩
theorem YQ.f {o:Oper} (hi:iK ol i=some o) (hg:gG ol (cw (o.looksAt ol.toArray) 0 fr) o.guard=some false):YQ P ol.toArray i (.v undef) fr Γ:=⟨o,false,pN hi,hg,rfl⟩
theorem OQ (hi:iK ol i=some ⟨d,op,ty,pos,af,none⟩) (hy:YG P op (cw (Oper.looksAt ol.toArray ⟨d,op,ty,pos,af,none⟩) 0 fr) Γ g) (h:GO P ol.toArray Q r ((i,g,fr)::aQ) (bh fr d g) Γ):GO P ol.toArray Q (.q i r) aQ fr Γ :=
 GO.yq hi (YQ.t hi rfl hy) h
theorem OP (hi:iK ol i=some ⟨d,op,ty,pos,af,none⟩) (hy:∀ Γ,YG P op (cw (Oper.looksAt ol.toArray ⟨d,op,ty,pos,af,none⟩) 0 fr) Γ g) (h:GO P ol.toArray Q r aQ (bh fr d g) Γ):GO P ol.toArray Q (.q i r) aQ fr Γ :=
 GO.yp hi (fun Γ=>YQ.t hi rfl (hy Γ)) h
theorem WJ {c:Bool} (hi:iK ol i=some ⟨d,op,ty,pos,af,some gd⟩) (hv:mz ol (cw (Oper.looksAt ol.toArray ⟨d,op,ty,pos,af,some gd⟩) 0 fr) gd.1=some (some c)) (hc:c=gd.2) (hy:YG P op (cw (Oper.looksAt ol.toArray ⟨d,op,ty,pos,af,some gd⟩) 0 fr) Γ g)
  (h:GO P ol.toArray Q r ((i,g,fr)::aQ) (bh fr d g) Γ):GO P ol.toArray Q (.q i r) aQ fr Γ :=
 GO.yq hi (YQ.t hi (AO hv hc) hy) h
theorem Ux {c:Bool} (hi:iK ol i=some ⟨d,op,ty,pos,af,some gd⟩) (hv:mz ol (cw (Oper.looksAt ol.toArray ⟨d,op,ty,pos,af,some gd⟩) 0 fr) gd.1=some (some c)) (hc:c=gd.2) (hy:∀ Γ,YG P op (cw (Oper.looksAt ol.toArray ⟨d,op,ty,pos,af,some gd⟩) 0 fr) Γ g)
  (h:GO P ol.toArray Q r aQ (bh fr d g) Γ):GO P ol.toArray Q (.q i r) aQ fr Γ :=
 GO.yp hi (fun Γ=>YQ.t hi (AO hv hc) (hy Γ)) h
theorem WE {c:Bool} (hi:iK ol i=some ⟨d,op,ty,pos,af,some gd⟩) (hv:mz ol (cw (Oper.looksAt ol.toArray ⟨d,op,ty,pos,af,some gd⟩) 0 fr) gd.1=some (some c)) (hc:c=!gd.2) (h:GO P ol.toArray Q r aQ (bh fr d (.v undef)) Γ):GO P ol.toArray Q (.q i r) aQ fr Γ :=
 GO.yp hi (fun Γ=>YQ.f hi (De hv hc)) h
theorem WG (hi:iK ol i=some ⟨d,op,ty,pos,af,some gd⟩) (hv:mz ol (cw (Oper.looksAt ol.toArray ⟨d,op,ty,pos,af,some gd⟩) 0 fr) gd.1=some none) (h:GO P ol.toArray Q r aQ (bh fr d (.v undef)) Γ):GO P ol.toArray Q (.q i r) aQ fr Γ :=
 GO.yp hi (fun Γ=>YQ.f hi (Q4 hv)) h
theorem GZ:∀ (fr:List GV) (ts:List Nat) (k t:Nat),k+t∈ts->cj (cw ts k fr) t=cj fr t
 | [],_,_,_,_=>rfl
 | g::fr,ts,k,0,h=>by
  have hc:ts.contains k=true:=List.contains_iff_mem.2 (by simpa using h);simp only [cw,hc,cj]
 | g::fr,ts,k,t+1,h=>by
  simp only [cw,cj];exact GZ fr ts (k+1) t (by rw [show k+1+t=k+(t+1) by omega];exact h)
theorem uD {o:Oper} {ops:Array Oper} {x:Operand} (h:x∈o.op.operands.toList):aP (cw (o.looksAt ops) 0 fr) x=aP fr x:=by
 cases x with
 | tmp t =>
  refine GZ fr _ 0 t ?_;rw [Nat.zero_add];refine List.mem_append_left _ (List.mem_filterMap.2 ⟨.tmp t,h,rfl⟩)
 | _=>rfl
theorem WI {x:Operand} (hi:iK ol i=some ⟨d,.move x,ty,pos,af,none⟩) (h:GO P ol.toArray Q r aQ (bh fr d (aP fr x)) Γ):GO P ol.toArray Q (.q i r) aQ fr Γ :=
 OP hi (fun Γ=>by
  have:=YG.mv (P:=P) (x:=x) (Γ:=Γ) (fr:=cw (Oper.looksAt ol.toArray ⟨d,.move x,ty,pos,af,none⟩) 0 fr)
  rw [uD (by simp [Op.operands])] at this;exact this) h
theorem WH {x:Operand} (hi:iK ol i=some ⟨d,.assign x,ty,pos,af,none⟩) (h:GO P ol.toArray Q r aQ (bh fr d (aP fr x)) Γ):GO P ol.toArray Q (.q i r) aQ fr Γ :=
 OP hi (fun Γ=>by
  have:=YG.sO (P:=P) (x:=x) (Γ:=Γ) (fr:=cw (Oper.looksAt ol.toArray ⟨d,.assign x,ty,pos,af,none⟩) 0 fr)
  rw [uD (by simp [Op.operands])] at this;exact this) h
theorem Vo {x:Operand} {c:Bool} (hi:iK ol i=some ⟨d,.move x,ty,pos,af,some gd⟩) (hv:mz ol (cw (Oper.looksAt ol.toArray ⟨d,.move x,ty,pos,af,some gd⟩) 0 fr) gd.1=some (some c)) (hc:c=gd.2) (h:GO P ol.toArray Q r aQ (bh fr d (aP fr x)) Γ):GO P ol.toArray Q (.q i r) aQ fr Γ :=
 Ux hi hv hc (fun Γ=>by
  have:=YG.mv (P:=P) (x:=x) (Γ:=Γ) (fr:=cw (Oper.looksAt ol.toArray ⟨d,.move x,ty,pos,af,some gd⟩) 0 fr)
  rw [uD (by simp [Op.operands])] at this;exact this) h
theorem Vn {c a b:Operand} {t:Bool} (hi:iK ol i=some ⟨d,.pick c a b,ty,pos,af,none⟩) (hc:aP (cw (Oper.looksAt ol.toArray ⟨d,.pick c a b,ty,pos,af,none⟩) 0 fr) c=.v (.bool t)) (ht:t=true) (h:GO P ol.toArray Q r aQ (bh fr d (aP fr a)) Γ):GO P ol.toArray Q (.q i r) aQ fr Γ :=
 OP hi (fun Γ=>by
  have:=YG.uM (P:=P) (Γ:=Γ) (a:=a) (b:=b) hc ht
  rw [uD (by simp [Op.operands])] at this;exact this) h
theorem Vm {c a b:Operand} {t:Bool} (hi:iK ol i=some ⟨d,.pick c a b,ty,pos,af,none⟩) (hc:aP (cw (Oper.looksAt ol.toArray ⟨d,.pick c a b,ty,pos,af,none⟩) 0 fr) c=.v (.bool t)) (ht:t=false) (h:GO P ol.toArray Q r aQ (bh fr d (aP fr b)) Γ):GO P ol.toArray Q (.q i r) aQ fr Γ :=
 OP hi (fun Γ=>by
  have:=YG.uL (P:=P) (Γ:=Γ) (a:=a) (b:=b) hc ht
  rw [uD (by simp [Op.operands])] at this;exact this) h
inductive ig (P:Program) (ops:Array Oper) (i:Nat) (aH:List Ob):kj->kj->Prop
 | n:ig P ops i aH [] []
 | w {j:Nat} {g:GV} {nK:List GV} {aQ dE:kj} (hw:waits ops i j=true) (h:ig P ops i aH aQ dE):ig P ops i aH ((j,g,nK)::aQ) dE
 | y {j:Nat} {g:GV} {nK:List GV} {aQ dE:kj} (hy:YQ P ops j g nK aH) (h:ig P ops i aH aQ dE):ig P ops i aH ((j,g,nK)::aQ) ((j,g,nK)::dE)
theorem tz {ops:Array Oper} {q p:Nat × GV × List GV} (h:p∈stay ops i (q::aQ)):(p=q/\waits ops i q.1=false)\/p∈stay ops i aQ:=by
 simp only [stay,mem_filter] at h |-
 rcases List.mem_cons.1 h.1 with he | kB
 ·subst he;exact .inl ⟨rfl,by simpa using h.2⟩
 ·exact .inr ⟨kB,h.2⟩
theorem ig.spec {ops:Array Oper} {aH:List Ob} {dE:kj} (h:ig P ops i aH aQ dE):(∀ p∈stay ops i aQ,YQ P ops p.1 p.2.1 p.2.2 aH)/\∀ p∈stay ops i aQ,p∈dE:=by
 induction h with
 | n=>exact ⟨fun p hp=>(by cases hp),fun p hp=>(by cases hp)⟩
 | w hw h ih =>
  refine ⟨fun p hp=>?_,fun p hp=>?_⟩
  ·rcases tz hp with ⟨_,h2⟩ | kB
   ·simp only at h2;rw [hw] at h2;cases h2
   ·exact ih.1 p kB
  ·rcases tz hp with ⟨_,h2⟩ | kB
   ·simp only at h2;rw [hw] at h2;cases h2
   ·exact ih.2 p kB
 | y hy h ih =>
  refine ⟨fun p hp=>?_,fun p hp=>?_⟩
  ·rcases tz hp with ⟨he,_⟩ | kB
   ·subst he;exact hy
   ·exact ih.1 p kB
  ·rcases tz hp with ⟨he,_⟩ | kB
   ·subst he;exact mem_cons_self
   ·exact mem_cons_of_mem _ (ih.2 p kB)
def QT (fr:List GV):Option Tmp->Bool
 | none=>true
 | some t=>iT fr t
def et (P:Program) (Q:List GV->List Ob->Prop) (ol:List Oper) (i:Nat) (r:Ot) (aQ:kj) (fr:List GV) (d:Option Tmp) (bQ:List GV) (aH:List Ob):Prop :=
 ∃ g dE,bQ=bh fr d g/\ig P ol.toArray i aH aQ dE/\GO P ol.toArray Q r dE (bh fr d g) aH
theorem GA.of {o:Oper} {Kt:GV->List Ob->Prop} {R:List GV->List Ob->Prop} {ops:Array Oper} (hg:o.guard=none) (hd:QT fr o.dst=true) (hR:∀ bQ aH,R bQ aH->∃ g,bQ=bh fr o.dst g/\Kt g aH) (h:GL P Γ.length ops (aS R (fun _ _ _=>False)) [o] fr Γ):GA P o Kt fr Γ:=fun B K β w l hI hF=>by
 have h1:=h (cur K β Γ w) K β w l rfl hI.here hF;obtain ⟨d,op,ty,pos,af,gd⟩:=o;simp only at hg;subst hg;simp only at h1 hd;unfold WL wpList at h1;rw [if_pos (by rfl)] at h1
 rcases h1 with h1 | ⟨_,a0,w0,hf⟩
 ·rw [<-mq];refine S6 h1 (fun c a w' hf=>?_) (fun a w' hf=>?_) ?_ ?_
  ·obtain ⟨l',_,_,_,_,_,_,_,hq⟩:=hf;exact hq
  ·obtain ⟨l',_,_,_,_,_,_,_,hq⟩:=hf;exact hq
  ·rintro v w' ⟨l',hl,K',bP,bQ,aH,be,uk,hq⟩;obtain ⟨g,rfl,hk⟩:=hR bQ aH hq;rw [oe] at hl
   have iG:put l d v=l':=by
    have:=congrArg (fun a:Act=>a.tmps.toList) hl;simpa [act] using this
   subst iG;refine ⟨K',bP,g,aH,be.kle,be.ble,hI.Ls be,fun J2 l2 h2=>?_,hk⟩
   cases d with
   | none=>exact h2
   | some t =>
    refine h2.eF t ?_;have hv:=uk.nth t;have h3:nth (put l (some t) v) t=v:=rq (lM hF hd) v
    have h4:cj (bh fr (some t) g) t=g:=by
     have gen:∀ (fr:List GV) (t:Nat),iT fr t=true->cj (bj fr t g) t=g:=by
      intro fr
      induction fr with
      | nil=>intro t h;cases h
      | cons x fr ih=>intro t h;cases t with | zero=>rfl | succ t=>exact ih t h
     exact gen fr t hd
    rw [h3,h4] at hv;exact hv
  ·rintro d' w' ⟨l',hl,_⟩;have:=congrArg (fun a:Act=>a.defers) hl
   cases d <;> simp [act,Act.put] at this
 ·obtain ⟨l',_,_,_,_,_,_,_,hq⟩:=hf;exact hq.elim
theorem et.kt {bQ:List GV} {aH:List Ob} (h:et P Q ol i r aQ fr d bQ aH):∃ g,bQ=bh fr d g/\((∀ p∈stay ol.toArray i aQ,YQ P ol.toArray p.1 p.2.1 p.2.2 aH)/\GO P ol.toArray Q r (stay ol.toArray i aQ) (bh fr d g) aH):=by
 obtain ⟨g,dE,h1,h2,h3⟩:=h;obtain ⟨h4,h5⟩:=h2.spec;exact ⟨g,h1,h4,GO.more r _ _ _ _ (fun p hp=>.inl (h5 p hp)) h3⟩
theorem OA (hi:iK ol i=some ⟨d,op,ty,pos,af,none⟩) (hd:QT fr d=true) (h:GL P Γ.length ol.toArray (aS (et P Q ol i r aQ fr d) (fun _ _ _=>False)) [⟨d,op,ty,pos,af,none⟩] fr Γ):GO P ol.toArray Q (.a i r) aQ fr Γ:=by
 refine ⟨_,true,pN hi,rfl,?_⟩
 exact (GA.of (o:=⟨d,op,ty,pos,af,none⟩) rfl hd (fun bQ aH hq=>et.kt hq) h).mono fun g aH ⟨h1,h2⟩=>⟨h1,by rw [ue hi];exact h2⟩
theorem Of {c:Bool} (hi:iK ol i=some ⟨d,op,ty,pos,af,some gd⟩) (hd:QT fr d=true) (hv:mz ol fr gd.1=some (some c)) (hc:c=gd.2) (h:GL P Γ.length ol.toArray (aS (et P Q ol i r aQ fr d) (fun _ _ _=>False)) [⟨d,op,ty,pos,af,none⟩] fr Γ):GO P ol.toArray Q (.a i r) aQ fr Γ:=by
 refine ⟨_,true,pN hi,AO hv hc,?_⟩
 have:=(GA.of (o:=⟨d,op,ty,pos,af,none⟩) rfl hd (fun bQ aH hq=>et.kt hq) h).mono (CU:=fun g aH=>(∀ p∈stay ol.toArray i aQ,YQ P ol.toArray p.1 p.2.1 p.2.2 aH)/\GO P ol.toArray Q r (stay ol.toArray i aQ) (bh fr (ko ol.toArray i) g) aH) fun g aH ⟨h1,h2⟩=>⟨h1,by rw [ue hi];exact h2⟩
 exact this
theorem WC {c:Bool} {dE:kj} (hi:iK ol i=some ⟨d,op,ty,pos,af,some gd⟩) (hv:mz ol fr gd.1=some (some c)) (hc:c=!gd.2) (hs:ig P ol.toArray i Γ aQ dE) (h:GO P ol.toArray Q r dE (bh fr d (.v undef)) Γ):GO P ol.toArray Q (.a i r) aQ fr Γ :=
 ⟨_,false,pN hi,De hv hc,hs.spec.1,by rw [ue hi];exact GO.more r _ _ _ _ (fun p hp=>.inl (hs.spec.2 p hp)) h⟩
theorem WD {dE:kj} (hi:iK ol i=some ⟨d,op,ty,pos,af,some gd⟩) (hv:mz ol fr gd.1=some none) (hs:ig P ol.toArray i Γ aQ dE) (h:GO P ol.toArray Q r dE (bh fr d (.v undef)) Γ):GO P ol.toArray Q (.a i r) aQ fr Γ :=
 ⟨_,false,pN hi,Q4 hv,hs.spec.1,by rw [ue hi];exact GO.more r _ _ _ _ (fun p hp=>.inl (hs.spec.2 p hp)) h⟩
theorem GO.nil (h:Q fr Γ):GO P ol.toArray Q .nil aQ fr Γ:=h
theorem et.mk {dE:kj} (hs:ig P ol.toArray i Γ aQ dE) {nK:List GV} (h:GO P ol.toArray Q r dE (bh nK d g) Γ):et P Q ol i r aQ nK d (bh nK d g) Γ:=⟨g,dE,rfl,hs,h⟩
theorem nu {ops:Array Oper} {bQ:List GV} {aH:List Ob} (h1:fr=bQ) (h2:Γ=aH) (h:GO P ops Q r aQ bQ aH):GO P ops Q r aQ fr Γ:=by subst h1;subst h2;exact h
theorem Uw {ops:Array Oper} {bQ:List GV} (h1:fr=bQ) (h:GO P ops Q r aQ bQ Γ):GO P ops Q r aQ fr Γ:=by subst h1;exact h
end
theorem GW.range {P:Program} {m:Nat} {Q:dQ} {fr:List GV} {Γ:List Ob} {B C r1 r2:Nat} {body:Code} {tb ti tn ta:Tmp} {T1 T2 T3 T4 T5 T6 T7:TypeId} {p1 p2 p3:String} {a1 a2 a3:Array Edge} (n:Nat) (I:Nat->List GV->List Ob->Prop)
  (h0:xO m (I 0) fr Γ) (hn:n<=1099511627776)
  (hI:∀ k fr Γ,I k fr Γ->cj fr ti=.v (ii k)/\cj fr tn=.v (ii n)/\iT fr tb=true)
  (TB:∀ k fr Γ,k < n->I k fr Γ->GW P m body (aW C (aS (fun bQ aH=>cj bQ ti=.v (ii k)/\iT bQ ta=true/\xO m (I (k+1)) (bj (bj bQ ta (.v (ii ((k+1:Nat):Int)))) ti (.v (ii ((k+1:Nat):Int)))) aH) (aW B Q))) (bj fr tb (.v (.bool true))) Γ)
  (vj:∀ fr Γ,I n fr Γ->Q .normal (bj fr tb (.v (.bool false))) Γ) :
  GW P m (.loop (.seq (.region r1 [(⟨some tb,.binOp .lss T1 (.tmp ti) (.tmp tn) T2,T3,p1,a1,none⟩:Oper)].toArray false) (.seq (.cond (.tmp tb) .skip (.exit B))
   (.seq (.block C body) (.region r2 [(⟨some ta,.binOp .add T4 (.tmp ti) (.const (.int .i64 1)) T5,T6,p2,a2,none⟩:Oper),⟨some ti,.move (.tmp ta),T7,p3,a3,none⟩].toArray false))))) (aW B Q) fr Γ:=by
 have x6:∀ (fr:List GV) (t:Nat) (g:GV),iT fr t=true->cj (bj fr t g) t=g:=by
  intro fr
  induction fr with
  | nil=>intro t g h;cases h
  | cons x fr ih=>intro t g h;cases t with | zero=>rfl | succ t=>exact ih t g h
 refine GW.loop (fun k:Nat=>n - k) (fun k fr Γ=>k<=n/\I k fr Γ) 0 ?_ ?_
 ·obtain ⟨bQ,aH,hw,h⟩:=h0;exact ⟨bQ,aH,hw,Nat.zero_le _,h⟩
 rintro k fr Γ ⟨hk,hi⟩;obtain ⟨h1,h2,h3⟩:=hI k fr Γ hi;refine GW.seq (GW.region (GL.q (YG.go (v:=.bool (decide ((k:Int) < (n:Int)))) ?_) (GL.nil (aL ?_))))
 ·simp only [Ra,Xw.go,aP,h1,h2,AP,HY,ii,IL,HZ]
 by_cases aq:k < n
 ·have hd:decide ((k:Int) < (n:Int))=true:=by simpa using aq
  simp only [bh,hd];refine GW.seq (Oc (x6 fr tb _ h3) rfl (GW.skip (aL (GW.seq (GW.block ?_)))));refine GW.mono (TB k fr Γ aq hi) ?_;intro e bQ aH hq;have key:∀ bQ aH,(cj bQ ti=.v (ii k)/\iT bQ ta=true/\xO m (I (k+1)) (bj (bj bQ ta (.v (ii ((k+1:Nat):Int)))) ti (.v (ii ((k+1:Nat):Int)))) aH) ->
    GW P m (.region r2 [(⟨some ta,.binOp .add T4 (.tmp ti) (.const (.int .i64 1)) T5,T6,p2,a2,none⟩:Oper),⟨some ti,.move (.tmp ta),T7,p3,a3,none⟩].toArray false) (aS (fun bQ aH=>∃ y:Nat,xO m (fun fr Γ=>y<=n/\I y fr Γ) bQ aH/\n - y < n - k) (aW B Q)) bQ aH:=by
   rintro bQ aH ⟨h5,h6,J2,Cv,hw,h7⟩;refine GW.region (GL.q (YG.oG (a:=k) h5 rfl (by omega)) (GL.q YG.mv (GL.nil (aL ⟨k+1,⟨J2,Cv,?_,aq,h7⟩,by omega⟩))));have h8:aP (bj bQ ta (.v (ii ((k+1:Nat):Int)))) (.tmp ta)=.v (ii ((k+1:Nat):Int)):=x6 bQ ta _ h6;simp only [bh,h8];exact hw
  cases e with
  | normal=>exact key bQ aH hq
  | exit id =>
   simp only [aW] at hq |-;split <;> rename_i hh
   ·rw [if_pos hh] at hq;exact key bQ aH hq
   ·rw [if_neg hh] at hq;exact hq
  | goto _=>exact hq
  | ret=>exact hq
  | panic _=>exact hq
  | outgrown=>exact hq
 ·have mC:k=n:=by omega
  have hd:decide ((k:Int) < (n:Int))=false:=by simpa using aq
  simp only [bh,hd];refine GW.seq (Oa (x6 fr tb _ h3) rfl (GW.exit (Dh (Dh (Gg ?_)))));subst mC;exact vj fr Γ hi
end Go.Xg
namespace Go.Xg
open Go.RowKit Go.Xw
def lI (g g':GV):Prop:=∀ K β x,Rel K β x g->Rel K β x g'
def ki (gs hs:List GV):Prop:=∀ K β vs,aV K β vs gs->aV K β vs hs
theorem lI.refl {g:GV}:lI g g:=fun _ _ _ h=>h
theorem lI.Zy {g:GV}:lI g .Zy:=fun _ _ _ _=>.Zy _
theorem lI.nil {k:Nat}:lI (.v (.slice none 0 0)) (.sl k []):=fun K β x h=>by
 rw [Rel.eT h];exact .sl0 _ _ _
theorem ki.nil:ki [] []:=fun _ _ _ h=>h
theorem ki.refl {gs:List GV}:ki gs gs:=fun _ _ _ h=>h
theorem ki.cons {g h:GV} {gs hs:List GV} (h1:lI g h) (h2:ki gs hs):ki (g::gs) (h::hs):=fun K β vs hv=>by
 cases vs with
 | nil=>have:=hv.1;simp at this
 | cons v vs=>obtain ⟨a,b⟩:=hv.nR;exact .cons (h1 K β v a) (h2 K β vs b)
theorem lI.agg {gs hs:List GV} (h:ki gs hs):lI (.agg gs) (.agg hs):=fun K β x hx=>by
 cases hx with
 | agg vs _ hl h'=>obtain ⟨a,b⟩:=h K β vs ⟨hl,h'⟩;exact .agg vs hs a b
theorem lI.tup {gs hs:List GV} (h:ki gs hs):lI (.tup gs) (.tup hs):=fun K β x hx=>by
 cases hx with
 | tup vs _ hl h'=>obtain ⟨a,b⟩:=h K β vs ⟨hl,h'⟩;exact .tup vs hs a b
inductive QI:List GV->List GV->Prop
 | nil:QI [] []
 | cons {f g:GV} {fs gs:List GV} (h:lI f g) (t:QI fs gs):QI (f::fs) (g::gs)
section
variable {P:Program} {m:Nat} {Q:dQ} {fr:List GV} {Γ:List Ob} {ops:Array Oper} {rest:List Oper} {d:Option Tmp} {op:Op} {ty:TypeId} {pos:String} {af:Array Edge}
theorem Wk.cells (i:Nat) {E:TypeId} {cs ds:List GV} (hi:Γ[i]?=some (.box E cs)) (h:ki cs ds):Wk m fr Γ fr (oset Γ i (.box E ds)):=fun B K β w l _ hI hF=>by
 rw [aX];refine ⟨K,β,⟨hI.ext,hI.kle,hI.ble,hI.loc,hI.fz,fun j x hj=>?_,fun j hj=>hI.out j (by simpa using hj),hI.dis,hI.own,hI.kn,hI.tab⟩,hF⟩;rw [getElem?_set] at hj;split at hj
 ·rename_i fU;split at hj
  ·cases hj;subst fU
   obtain ⟨b,vs,h1,h2,h3,h4⟩:=hI.ob i _ hi;exact ⟨b,vs,h1,h2,h K β vs h3,h4⟩
  ·cases hj
 ·exact hI.ob j x hj
theorem GL.zk {f:FuncId} [hf:aB P f] (aK:List Nat) {args:List Operand} {lR:Array TypeId} {gs:List GV} {gn:List Ob} {R:GV->List Ob->Prop} (hc:GC P f gs gn R) (ha:ki (args.map (aP fr)) (kU (bL aK Γ.length) gs)) (eQ:gE aK Γ.length=true)
  (br:seen (bL aK Γ.length) Γ aK gn) (h:∀ g aH,R g aH->aK.length<=aH.length/\GL P m ops Q rest (bh fr d (dr (bL aK Γ.length) g)) (dL Γ aK (aH.map (Ob.dr (bL aK Γ.length))))) :
  GL P m ops Q (⟨d,.call ⟨.value (.func f),args.toArray,lR⟩,ty,pos,af,none⟩::rest) fr Γ :=
 GL.calls (vs:=fun l=>args.map (ev l)) (fun K β w l hF=>⟨ha K β _ (hF.args args),by simp [execOp,resolve,ev,Deferred.ofValue,invoke,kV]⟩) eQ br hc h
theorem GL.Tk {f:FuncId} [hf:aB P f] (aK:List Nat) {args:List Operand} {lR:Array TypeId} {gs:List GV} {gn qe:List Ob} {g:GV} (hc:GF P f gs gn g qe) (ha:ki (args.map (aP fr)) (kU (bL aK Γ.length) gs)) (eQ:gE aK Γ.length=true)
  (br:seen (bL aK Γ.length) Γ aK gn) (hl:Nat.ble aK.length qe.length=true) (h:GL P m ops Q rest (bh fr d (dr (bL aK Γ.length) g)) (dL Γ aK (qe.map (Ob.dr (bL aK Γ.length))))) :
  GL P m ops Q (⟨d,.call ⟨.value (.func f),args.toArray,lR⟩,ty,pos,af,none⟩::rest) fr Γ :=
 GL.zk aK hc ha eQ br fun g' aH ⟨h1,h2⟩=>by subst h1;subst h2;exact ⟨by simpa using hl,h⟩
end
section
variable {P:Program} {fr:List GV} {Γ:List Ob} {g:GV}
theorem K.bin {o:BinOp} {t t':TypeId} {x y:Operand} (h:YG P (.binOp o t x y t') fr Γ g):YG P (.binOp o t x y t') fr Γ g:=h
theorem K.ld {t:TypeId} {x:Operand} (h:YG P (.load t x) fr Γ g):YG P (.load t x) fr Γ g:=h
theorem K.oM {t:TypeId} {x:Operand} {i:Nat} (h:YG P (.fieldAddr t x i) fr Γ g):YG P (.fieldAddr t x i) fr Γ g:=h
theorem K.len {t:TypeId} {x:Operand} (h:YG P (.call ⟨.builtin .len,#[x],#[t]⟩) fr Γ g):YG P (.call ⟨.builtin .len,#[x],#[t]⟩) fr Γ g:=h
theorem K.wX {x:Operand} (h:YG P (.nilCheck x) fr Γ g):YG P (.nilCheck x) fr Γ g:=h
theorem K.idx {t:TypeId} {x y:Operand} (h:YG P (.indexAddr t x y) fr Γ g):YG P (.indexAddr t x y) fr Γ g:=h
theorem K.pick {a b c:Operand} (h:YG P (.pick a b c) fr Γ g):YG P (.pick a b c) fr Γ g:=h
theorem K.w8 {t:TypeId} {x:Operand} {a b c:Option Operand} (h:YG P (.slice t x a b c) fr Γ g):YG P (.slice t x a b c) fr Γ g:=h
theorem K.iL {f:Fn} {a b:Array Operand} (h:YG P (.makeFunc f a b) fr Γ g):YG P (.makeFunc f a b) fr Γ g:=h
end
section
variable {P:Program} {fn:Func} {m:Nat} {fr:List GV} {Γ aH:List Ob} {e:Exit} {g:GV}
theorem zp {R:GV->List Ob->Prop} (h:rR P fn m (fun x Δ=>∃ y,lI x y/\R y Δ) e fr Γ):rR P fn m R e fr Γ :=
 ⟨h.1,fun B K β w l hm hI hF=>by
  obtain ⟨v,K',bP,x,Δ,h1,h2,h3,y,h4,h5⟩:=h.2 B K β w l hm hI hF
  exact ⟨v,K',bP,y,Δ,h1,h2,h4 _ _ _ h3,h5⟩⟩
end
end Go.Xg
