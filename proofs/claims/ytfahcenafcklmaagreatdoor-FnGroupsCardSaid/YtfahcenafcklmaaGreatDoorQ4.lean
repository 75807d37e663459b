/- Part 4 of proofs that are told in their last texts. -/
import Derived.WalkKit
import Derived.KernelRfl
import Derived.Test.YtfahcenafcklmaaGreatDoorQ1
import Derived.Orders
open List (all_cons flatten_cons getElem?_drop getElem?_take length_cons map_nil map_toArray mem_cons_self mem_filter size_toArray)
set_option linter.unusedVariables false
set_option linter.unusedSimpArgs false
set_option maxRecDepth 100000
namespace Go.Xw
open Go.RowKit
def nth:List Value->Nat->Value
 | [],_=>undef
 | v::_,0=>v
 | _::l,n+1=>nth l n
def gJ:List Value->Nat->Value->List Value
 | [],_,_=>[]
 | _::l,0,v=>v::l
 | x::l,n+1,v=>x::gJ l n v
def ev (l:List Value):Operand->Value
 | .tmp t=>nth l t
 | .const v=>v
 | .global g=>.pointer (some ⟨g,0,none⟩)
 | .func f=>.func (.func f) #[] #[]
def put (l:List Value) (d:Option Tmp) (v:Value):List Value :=
 match d with | some d=>gJ l d v | none=>l
theorem kX (l:List Value) (t:Nat):l.toArray.getD t undef=nth l t:=by
 induction l generalizing t with
 | nil=>simp [nth]
 | cons x l ih =>
  cases t with
  | zero=>simp [nth]
  | succ t=>rw [nth,<-ih];simp [Array.getD]
theorem Fm (l:List Value) (t:Nat) (v:Value):l.toArray.setIfInBounds t v=(gJ l t v).toArray:=by
 have h:∀ (l:List Value) t,gJ l t v=l.set t v:=by
  intro l
  induction l with
  | nil=>intro t;rfl
  | cons x l ih=>intro t;cases t with | zero=>rfl | succ t=>simp [gJ,ih]
 rw [h];simp
def act (l:List Value):Act:=⟨l.toArray,[]⟩
theorem qN (l:List Value):(act l).eval=ev l:=by
 funext x;cases x <;> first | rfl | exact kX l _
theorem sJ (l:List Value) (d:Option Tmp) (v:Value):(act l).put d v=act (put l d v):=by
 cases d with
 | none=>rfl
 | some d=>simp only [act,Act.put,put];rw [Fm]
abbrev oJ:=Exit->List Value->World->Prop
def lift (Q:oJ):Exit->Act->World->Prop:=fun e a w=>∃ l,a=act l/\Q e l w
def W (P:Program) (c:Code) (Q:oJ) (l:List Value) (w:World):Prop:=c.wp P (lift Q) (act l) w
def WL (P:Program) (ops:Array Oper) (Q:oJ) (rest:List Oper) (l:List Value) (w:World):Prop :=
 wpList P ops (lift Q) rest (act l) w
def thn (next:List Value->World->Prop) (Q:oJ):oJ
 | .normal,l,w=>next l w
 | e,l,w=>Q e l w
def inb (id:Nat) (Q:oJ):oJ
 | .exit EJ,l,w=>if EJ=id then Q .normal l w else Q (.exit EJ) l w
 | e,l,w=>Q e l w
section
variable {P:Program} {Q:oJ} {l:List Value} {w:World} {ops:Array Oper} {rest:List Oper}
theorem W.seq {x y:Code} (h:W P x (thn (W P y Q) Q) l w):W P (.seq x y) Q l w:=by
 refine wp_seq (wp_mono h ?_);rintro e a w ⟨l,rfl,hq⟩
 cases e <;> first | exact hq | exact ⟨l,rfl,hq⟩
theorem W.skip (h:Q .normal l w):W P .skip Q l w:=wp_skip ⟨l,rfl,h⟩
theorem W.exit {n:Nat} (h:Q (.exit n) l w):W P (.exit n) Q l w:=wp_exit ⟨l,rfl,h⟩
theorem W.ret (h:Q .ret l w):W P .ret Q l w:=wp_ret ⟨l,rfl,h⟩
theorem W.block {id:Nat} {c:Code} (h:W P c (inb id Q) l w):W P (.block id c) Q l w:=by
 refine wp_block (wp_mono h ?_);rintro e a w ⟨l,rfl,hq⟩
 cases e with
 | exit EJ =>
  simp only [inb] at hq;simp only [Exit.inBlock];split <;> rename_i hh
  ·rw [ah hh] at hq;exact zek
  ·rw [ab hh] at hq;exact zek
 | normal=>exact zek
 | goto _=>exact zek
 | ret=>exact zek
 | panic _=>exact zek
 | outgrown=>exact zek
theorem W.cond {c:Operand} {x y:Code} {t:Bool} (hc:ev l c=.bool t) (ht:t=true->W P x Q l w) (hf:t=false->W P y Q l w):W P (.cond c x y) Q l w:=by
 refine wp_cond_split (t:=t) (by rw [qN];exact hc) ht hf
theorem W.mono {c:Code} {Q':oJ} (h:W P c Q l w) (hq:∀ e l w,Q e l w->Q' e l w):W P c Q' l w :=
 wp_mono h fun _ _ _ ⟨l,ha,q⟩=>⟨l,ha,hq _ _ _ q⟩
theorem W.loop {c:Code} {α:Type} (μ:α->Nat) (aeI:α->List Value->World->Prop) (x:α) (h0:aeI x l w)
  (round:∀ x l w,aeI x l w->W P c (thn (fun l' w'=>∃ y,aeI y l' w'/\μ y < μ x) Q) l w):W P (.loop c) Q l w:=by
 have key:∀ n x l w,μ x=n->aeI x l w->∀ (b:Frame) (k:List Item) (cs:List Frame),
   ∃ e a' w',lift Q e a' w'/\Arrives P (lone (b.at (act l) (.code c::.inLoop c::k)) cs w) b k cs e a' w':=by
  intro n
  induction n using Nat.strongRecOn with
  | _ n ih =>
   intro x l w hn hI b k cs;obtain ⟨e,ad7,GB,hq,Be⟩:=round x l w hI b (.inLoop c::k) cs;obtain ⟨F5,rfl,hq⟩:=hq
   cases e with
   | normal =>
    obtain ⟨y,abT,au⟩:=hq;obtain ⟨acZ,acW,ad1,ab3,YA⟩:=ih (μ y) (hn ▸ au) y F5 GB rfl abT b k cs;exact ⟨acZ,acW,ad1,ab3,.of_steps (Steps.trans Be (.one step_inLoop)) YA⟩
   | exit id=>exact zaD
   | goto _=>exact zaD
   | ret=>exact zaD
   | panic ch=>exact zaD
   | outgrown=>exact zaD
 intro b k cs;obtain ⟨e,a',w',hq,Be⟩:=key _ x l w rfl h0 b k cs;exact ⟨e,a',w',hq,.of_steps (.one step_loop) Be⟩
theorem W.region {id:Nat} {ol:List Oper} (h:WL P ol.toArray Q ol l w):W P (.region id ol.toArray false) Q l w :=
 wp_region_lit h
theorem WL.nil (h:Q .normal l w):WL P ops Q [] l w:=⟨l,rfl,h⟩
theorem WL.val {d:Option Tmp} {op:Op} {ty:TypeId} {pos:String} {af:Array Edge} {v:Value} {w':World}
  (hr:(execOp (ev l) ⟨d,op,ty,pos,af,none⟩).run P w=.ok (.value v) w')
  (h:WL P ops Q rest (put l d v) w'):WL P ops Q (⟨d,op,ty,pos,af,none⟩::rest) l w:=by
 refine wpList_plain rfl fun K hK=>?_
 simp only [Oper.wp,qN,hr,Oper.upon_value,sJ];exact hK _ _ h
theorem WL.skp {d:Option Tmp} {op:Op} {ty:TypeId} {pos:String} {af:Array Edge} {w':World}
  (hr:(execOp (ev l) ⟨d,op,ty,pos,af,none⟩).run P w=.ok .skip w')
  (h:WL P ops Q rest (put l d undef) w'):WL P ops Q (⟨d,op,ty,pos,af,none⟩::rest) l w:=by
 refine wpList_plain rfl fun K hK=>?_
 simp only [Oper.wp,qN,hr,Oper.upon_skip,sJ];exact hK _ _ h
theorem WL.gt {d:Option Tmp} {op:Op} {ty:TypeId} {pos:String} {af:Array Edge} {g:Option (Nat × Bool)}
  (hw:Region.wanted ⟨d,op,ty,pos,af,g⟩ (yielded ops (act l).tmps)=true)
  (h:WL P ops Q (⟨d,op,ty,pos,af,none⟩::rest) l w):WL P ops Q (⟨d,op,ty,pos,af,g⟩::rest) l w:=by
 unfold WL wpList at *;rw [ah hw];rw [ah (by rfl)] at h;exact h
theorem WL.gf {d:Option Tmp} {op:Op} {ty:TypeId} {pos:String} {af:Array Edge} {g:Option (Nat × Bool)}
  (hw:Region.wanted ⟨d,op,ty,pos,af,g⟩ (yielded ops (act l).tmps)=false)
  (h:WL P ops Q rest (put l d undef) w):WL P ops Q (⟨d,op,ty,pos,af,g⟩::rest) l w:=by
 unfold WL wpList;rw [ab (by rw [hw];decide)];show wpList P ops (lift Q) rest ((act l).put d undef) w;rw [sJ];exact h
end
section
variable {next:List Value->World->Prop} {Q:oJ} {l:List Value} {w:World} {id EJ:Nat}
end
structure Ext (S:Nat->Prop) (w w':World):Prop where
 os:w'.os=w.os
 tape:w'.tape=w.tape
 output:w'.output=w.output
 size:w.heap.size<=w'.heap.size
 block:∀ k,k < w.heap.size->¬ S k->w'.heap[k]?=w.heap[k]?
abbrev iI:Nat->Prop:=fun _=>False
theorem Ext.refl {S:Nat->Prop} (w:World):Ext S w w:=⟨rfl,rfl,rfl,aI _,fun _ _ _=>rfl⟩
theorem Ext.trans {S:Nat->Prop} {a b c:World} (h:Ext S a b) (k:Ext S b c):Ext S a c :=
 ⟨k.os.trans h.os,k.tape.trans h.tape,k.output.trans h.output,jV h.size k.size,
  fun i hi hs=>(k.block i (AA hi h.size) hs).trans (h.block i hi hs)⟩
theorem Ext.step {S0 S:Nat->Prop} {a b c:World} (h:Ext S0 a b) (k:Ext S b c) (hs:∀ j,S j->a.heap.size<=j\/S0 j):Ext S0 a c :=
 ⟨k.os.trans h.os,k.tape.trans h.tape,k.output.trans h.output,jV h.size k.size,
  fun i hi hn=>(k.block i (AA hi h.size) fun hsi=>by
   rcases hs i hsi with I | I
   ·omega
   ·exact hn I).trans (h.block i hi hn)⟩
theorem Ext.mono {S S':Nat->Prop} {a b:World} (h:Ext S a b) (hs:∀ k,k < a.heap.size->S k->S' k):Ext S' a b :=
 ⟨h.os,h.tape,h.output,h.size,fun i hi hn=>h.block i hi fun x=>hn (hs i hi x)⟩
theorem Ext.blk {S:Nat->Prop} {a b:World} (h:Ext S a b) {k:Nat} {o:Obj} (hv:a.heap[k]?=some o) (hs:¬ S k):b.heap[k]?=some o:=by
 rw [h.block k (by have:=(Array.getElem?_eq_some_iff.1 hv).1;exact this) hs,hv]
theorem vu {w:World} {k:Nat} {o:Obj} (hv:w.heap[k]?=some o):k < w.heap.size:=(Array.getElem?_eq_some_iff.1 hv).1
theorem QE {w:World} {b o:Nat} {cs:Array Value} {E:TypeId} {fz:Nat × Nat} {v:Value} (hb:w.heap[b]?=some (.cells cs E fz)) (hv:cs[o]?=some v):w.cell? ⟨b,o,none⟩=some v:=by
 rw [cell_of_row w b o cs E fz hb,hv]
theorem Ext.below {a b:World} (h:Ext iI a b):Below a.heap.size a b:=⟨h.os,h.tape,h.output,h.size,fun k hk=>h.block k hk (fun x=>x)⟩
structure yn (w w':World) (b:Nat) (o:Obj):Prop where
 fresh:b=w.heap.size
 size:w'.heap.size=b+1
 blk:w'.heap[b]?=some o
 ext:Ext iI w w'
theorem yn.of (w:World) (o:Obj):yn w (w.alloc o) w.heap.size o :=
 ⟨rfl,by simp,heap_alloc_new w o,⟨rfl,rfl,rfl,by simp,fun k hk _=>Below.heap_alloc _ _ _ hk⟩⟩
def B5:TypeDesc->Bool
 | .struct _=>true
 | .array _ _=>true
 | _=>false
class Ty (P:Program) (t:TypeId) (agg:outParam Bool) (k:outParam Nat):Prop where
 und:(P.underlying t).map B5=some agg
 siz:(P.info? t).map (·.size)=some k
class pW (P:Program) (t:TypeId) (e:outParam TypeId) (k:outParam Nat):Prop where
 und:P.underlying t=some (.slice e)
 siz:(P.info? e).map (·.size)=some k
class tw (P:Program) (t:TypeId):Prop where
 und:P.underlying t=some .string
def OW (P:Program) (s:TypeId) (i:Nat) (off:Nat) (k:Nat) (agg:Bool):Bool :=
 match P.underlying s with
 | some (.struct fs)=>match fs[i]? with
  | some f=>f.offset==off&&(match P.info? f.type with | some x=>x.size==k | none=>false)&&k != 0&&((P.underlying f.type).map B5==some agg)
  | none=>false
 | _=>false
class gq (P:Program) (s:TypeId) (i:Nat) (off:outParam Nat) (k:outParam Nat) (agg:outParam Bool):Prop where
 is:OW P s i off k agg=true
section
variable {P:Program} {w:World}
theorem HR {t:TypeId} {agg:Bool} {k:Nat} [h:Ty P t agg k]:(isAgg t).run P w=.ok agg w:=by
 obtain ⟨hu,_⟩:=h
 cases hd:P.underlying t with
 | none=>simp [hd] at hu
 | some d =>
  rw [hd] at hu;unfold isAgg;rw [Sem.run_bind,run_underlying hd w]
  cases d <;> simp_all [B5]
theorem lD {t:TypeId} {k:Nat} (h:(P.info? t).map (·.size)=some k):(sizeOf t).run P w=.ok k w:=by
 cases hq:P.info? t with
 | none=>simp [hq] at h
 | some i=>simp [hq] at h;simp [sizeOf,typeInfo,hq,h]
theorem tA (b o n:Nat):(⟨b,o,none⟩:Addr).add n=⟨b,o+n,none⟩:=by
 unfold Addr.add;split
 ·rename_i h;subst h;rfl
 ·rfl
theorem KN {t:TypeId} [h:Ty P t false 1] {a:Addr} {v:Value} (hv:w.cell? a=some v):(loadVar t a).run P w=.ok v w:=by
 unfold loadVar;rw [Sem.run_bind,HR (agg:=false) (k:=1)];simp [hv]
theorem pe {t:TypeId} {k:Nat} [h:Ty P t true k] {b o:Nat} {vs:List Value} (hl:vs.length=k) (hv:∀ j v,vs[j]?=some v->w.cell? ⟨b,o+j,none⟩=some v) :
  (loadVar t ⟨b,o,none⟩).run P w=.ok (.agg vs.toArray) w:=by
 unfold loadVar;rw [Sem.run_bind,HR (agg:=true) (k:=k)]
 have hc:(loadCells ⟨b,o,none⟩ k).run P w=.ok vs.toArray w:=by
  rw [<-hl]
  exact run_loadCells_list w _ vs fun j v hj=>by rw [tA];exact hv j v hj
 simp [lD h.siz,hc]
end
def fP (P:Program) (l:List Value) (w:World) (op:Op) (v:Value):Prop :=
 ∀ (d:Option Tmp) (ty:TypeId) (pos:String) (af:Array Edge),(execOp (ev l) ⟨d,op,ty,pos,af,none⟩).run P w=.ok (.value v) w
theorem WL.v {P:Program} {Q:oJ} {l:List Value} {w:World} {ops:Array Oper} {rest:List Oper} {d:Option Tmp} {op:Op} {ty:TypeId} {pos:String} {af:Array Edge} {v:Value}
  (hr:fP P l w op v) (h:WL P ops Q rest (put l d v) w):WL P ops Q (⟨d,op,ty,pos,af,none⟩::rest) l w:=WL.val (hr d ty pos af) h
section
variable {P:Program} {l:List Value} {w:World}
theorem R.mv {x:Operand}:fP P l w (.move x) ((ev l x)):=fun d ty pos af=>by simp [execOp]
theorem R.mG {x:Operand}:fP P l w (.assign x) ((ev l x)):=fun d ty pos af=>by simp [execOp]
theorem R.pick {c a b:Operand} {t:Bool} (hc:ev l c=.bool t):fP P l w (.pick c a b) ((if t then ev l a else ev l b)):=fun d ty pos af=>by simp [execOp,hc,asBool]
theorem R.PI {x:Operand} {a:Addr} (hx:ev l x=.pointer (some a)):fP P l w (.nilCheck x) ((.pointer (some a))):=fun d ty pos af=>by simp [execOp,hx]
theorem R.extract {x:Operand} {i:Nat} {vs:Array Value} {v:Value} (hx:ev l x=.tuple vs) (hv:vs[i]?=some v):fP P l w (.extract x i) (v):=fun d ty pos af=>by simp [execOp,hx,Instr.extract,hv]
theorem R.F7 {fn:Fn} {first cap:Array Operand}:fP P l w (.makeFunc fn first cap) ((.func fn (first.map (ev l)) (cap.map (ev l)))):=fun d ty pos af=>by simp [execOp,Instr.makeFunc]
abbrev ae:=List UInt8
def sv (s:ae):Value:=.string ⟨s.toArray⟩
theorem toList_mk (s:ae):(⟨s.toArray⟩:ByteArray).toList=s:=by
 simp [ByteArray.toList_eq]
theorem zi (s:ae):(⟨s.toArray⟩:ByteArray).size=s.length:=by
 simp [ByteArray.size]
theorem acJ (b:ByteArray):Value.string b=sv b.data.toList:=by
 simp [sv]
theorem QD (a b:ae):(⟨a.toArray⟩:ByteArray)++⟨b.toArray⟩=⟨(a++b).toArray⟩:=by
 apply ByteArray.ext;simp
theorem extract_mk (s:ae) (i j:Nat):(⟨s.toArray⟩:ByteArray).extract i j=⟨((s.take j).drop i).toArray⟩:=by
 apply ByteArray.ext;simp [ByteArray.data_extract,List.take_drop]
 by_cases h:i<=j
 ·rw [Nat.add_sub_cancel' h]
 ·rw [List.drop_eq_nil_of_le zgD,List.drop_eq_nil_of_le zgD]
abbrev ii (n:Int):Value:=.int .i64 n
theorem Gx {n:Int} (I : -9223372036854775808<=n) (G:n<=9223372036854775807):IntKind.i64.wrap n=n:=IntWalk.i64_in _ ⟨I,G⟩
theorem R.VB {x:Operand} {t:TypeId} [hT:tw P t] {s:ae} (hx:ev l x=sv s):fP P l w (.call ⟨.builtin .len,#[x],#[t]⟩) ((ii s.length)):=fun d ty pos af=>by simp [execOp,resolve,invoke,builtin,hx,sv,Builtin.len_,goInt,run_underlying hT.und,zi]
theorem R.PC {x:Operand} {t e:TypeId} {k:Nat} [hT:pW P t e k] {a:Option Addr} {n c:Nat} (hx:ev l x=.slice a n c):fP P l w (.call ⟨.builtin .len,#[x],#[t]⟩) ((ii n)):=fun d ty pos af=>by simp [execOp,resolve,invoke,builtin,hx,Builtin.len_,goInt,run_underlying hT.und]
theorem R.add {x y:Operand} {t t':TypeId} {a b:Int} (hx:ev l x=ii a) (hy:ev l y=ii b) (I : -9223372036854775808<=a+b) (G:a+b<=9223372036854775807):fP P l w (.binOp .add t x y t') ((ii (a+b))):=fun d ty pos af=>by simp [execOp,eqGuard,hx,hy,binOp,Op.intArith,Gx I G]
theorem R.sub {x y:Operand} {t t':TypeId} {a b:Int} (hx:ev l x=ii a) (hy:ev l y=ii b) (I : -9223372036854775808<=a - b) (G:a - b<=9223372036854775807):fP P l w (.binOp .sub t x y t') ((ii (a - b))):=fun d ty pos af=>by simp [execOp,eqGuard,hx,hy,binOp,Op.intArith,Gx I G]
theorem R.mul {x y:Operand} {t t':TypeId} {a b:Int} (hx:ev l x=ii a) (hy:ev l y=ii b) (I : -9223372036854775808<=a * b) (G:a * b<=9223372036854775807):fP P l w (.binOp .mul t x y t') ((ii (a * b))):=fun d ty pos af=>by simp [execOp,eqGuard,hx,hy,binOp,Op.intArith,Gx I G]
theorem R.cat {x y:Operand} {t t':TypeId} {a b:ae} (hx:ev l x=sv a) (hy:ev l y=sv b) (I:a.length+b.length<=9223372036854775807):fP P l w (.binOp .add t x y t') ((sv (a++b))):=fun d ty pos af=>by
  have G:¬ ((((⟨a.toArray⟩:ByteArray).size+(⟨b.toArray⟩:ByteArray).size:Nat):Int) > IntKind.i64.max):=by
   rw [zi,zi];simp [IntKind.max,IntKind.signed,IntKind.bits];omega
  simp only [execOp,eqGuard,hx,hy,binOp,sv,Op.stringOp,ab G,QD];simp
theorem R.eq {x y:Operand} {t t':TypeId} {k:IntKind} {a b:Int} (hx:ev l x=.int k a) (hy:ev l y=.int k b):fP P l w (.binOp .eql t x y t') ((.bool (a==b))):=fun d ty pos af=>by simp [execOp,eqGuard,hx,hy,binOp,Op.intCmp]
theorem R.ne {x y:Operand} {t t':TypeId} {k:IntKind} {a b:Int} (hx:ev l x=.int k a) (hy:ev l y=.int k b):fP P l w (.binOp .neq t x y t') ((.bool (a != b))):=fun d ty pos af=>by simp [execOp,eqGuard,hx,hy,binOp,Op.intCmp]
theorem R.lt {x y:Operand} {t t':TypeId} {k:IntKind} {a b:Int} (hx:ev l x=.int k a) (hy:ev l y=.int k b):fP P l w (.binOp .lss t x y t') ((.bool (decide (a < b)))):=fun d ty pos af=>by simp [execOp,eqGuard,hx,hy,binOp,Op.intCmp]
theorem R.le {x y:Operand} {t t':TypeId} {k:IntKind} {a b:Int} (hx:ev l x=.int k a) (hy:ev l y=.int k b):fP P l w (.binOp .leq t x y t') ((.bool (decide (a<=b)))):=fun d ty pos af=>by simp [execOp,eqGuard,hx,hy,binOp,Op.intCmp]
theorem R.gt' {x y:Operand} {t t':TypeId} {k:IntKind} {a b:Int} (hx:ev l x=.int k a) (hy:ev l y=.int k b):fP P l w (.binOp .gtr t x y t') ((.bool (decide (b < a)))):=fun d ty pos af=>by simp [execOp,eqGuard,hx,hy,binOp,Op.intCmp]
theorem R.ge {x y:Operand} {t t':TypeId} {k:IntKind} {a b:Int} (hx:ev l x=.int k a) (hy:ev l y=.int k b):fP P l w (.binOp .geq t x y t') ((.bool (decide (b<=a)))):=fun d ty pos af=>by simp [execOp,eqGuard,hx,hy,binOp,Op.intCmp]
theorem R.oO {x y:Operand} {t t':TypeId} {a b:ae} (hx:ev l x=sv a) (hy:ev l y=sv b):fP P l w (.binOp .eql t x y t') ((.bool (a==b))):=fun d ty pos af=>by simp only [execOp,eqGuard,hx,hy,binOp,sv,Op.stringOp,toList_mk];simp
theorem R.oY {x y:Operand} {t t':TypeId} {a b:ae} (hx:ev l x=sv a) (hy:ev l y=sv b):fP P l w (.binOp .neq t x y t') ((.bool (!(a==b)))):=fun d ty pos af=>by simp only [execOp,eqGuard,hx,hy,binOp,sv,Op.stringOp,toList_mk];simp
theorem R.not {x:Operand} {t:TypeId} {b:Bool} (hx:ev l x=.bool b):fP P l w (.unOp .not t x) ((.bool (!b))):=fun d ty pos af=>by simp [execOp,hx,Op.unary]
theorem R.jC {x y:Operand} {t:TypeId} [hT:tw P t] {s:ae} {k:IntKind} {i:Nat} {c:UInt8} (hx:ev l x=sv s) (hy:ev l y=.int k i) (hc:s[i]?=some c):fP P l w (.index t x y) ((.int .u8 c.toNat)):=fun d ty pos af=>by
  have hg:(⟨s.toArray⟩:ByteArray)[i]?=some c:=by
   obtain ⟨hi,hv⟩:=bB hc
   have rZ:i < (⟨s.toArray⟩:ByteArray).size:=by rw [zi];exact hi
   rw [getElem?_pos (⟨s.toArray⟩:ByteArray) i rZ];simp only [ByteArray.getElem_eq_getElem_data];simpa using hv
  simp [execOp,Instr.index,hx,hy,asIntOf,run_underlying hT.und,sv,hg]
theorem R.V6 {x:Operand} {t:TypeId} [hT:tw P t] {s:ae} {lo hi:Option Operand} {i j:Nat} (hx:ev l x=sv s)
  (kR:match lo with | some y=>∃ k,ev l y=.int k i | none=>i=0) (yO:match hi with | some y=>∃ k,ev l y=.int k j | none=>j=s.length)
  (I:i<=j) (G:j<=s.length):fP P l w (.slice t x lo hi none) ((sv ((s.take j).drop i))):=fun d ty pos af=>by
  have dj:=zi s
  cases lo <;> cases hi <;> simp only at kR yO
  ·subst kR;subst yO;simp [execOp,Instr.sliceAt,Instr.slice,Instr.sliceBounds,hx,sv,run_underlying hT.und,dj,extract_mk]
  ·obtain ⟨k,hk⟩:=yO;subst kR;simp [execOp,Instr.sliceAt,Instr.slice,Instr.sliceBounds,Instr.sliceBound,asIntOf,hx,hk,sv,run_underlying hT.und,dj,extract_mk,G]
  ·obtain ⟨k,hk⟩:=kR;subst yO;simp [execOp,Instr.sliceAt,Instr.slice,Instr.sliceBounds,Instr.sliceBound,asIntOf,hx,hk,sv,run_underlying hT.und,dj,extract_mk,I]
  ·obtain ⟨k,hk⟩:=kR;obtain ⟨k',fm⟩:=yO;simp [execOp,Instr.sliceAt,Instr.slice,Instr.sliceBounds,Instr.sliceBound,asIntOf,hx,hk,fm,sv,run_underlying hT.und,dj,extract_mk,I,G]
theorem R.kJ {x y:Operand} {t e:TypeId} {k:Nat} [hT:pW P t e k] {b o n c:Nat} {kk:IntKind} {i:Nat} (hx:ev l x=.slice (some ⟨b,o,none⟩) n c) (hy:ev l y=.int kk i) (hi:i < n):fP P l w (.indexAddr t x y) ((.pointer (some ⟨b,o+i * k,none⟩))):=fun d ty pos af=>by
  simp [execOp,Instr.indexAt,hx,hy,asIntOf,run_underlying hT.und,hi,lD hT.siz,tA]
theorem R.UO {x:Operand} {s:TypeId} {i off k:Nat} {agg:Bool} [hT:gq P s i off k agg] {b o:Nat} (hx:ev l x=.pointer (some ⟨b,o,none⟩)):fP P l w (.fieldAddr s x i) ((.pointer (some ⟨b,o+off,none⟩))):=fun d ty pos af=>by
  obtain ⟨hT⟩:=hT;unfold OW at hT;split at hT
  ·rename_i fs hu;split at hT
   ·rename_i f hf;simp only [aK,beq_iff_eq,bne_iff_ne,ne_eq] at hT;obtain ⟨⟨⟨I,G⟩,h3⟩,h4⟩:=hT;split at G
    ·rename_i x hq
     have hs:(P.info? f.type).map (·.size)=some k:=by rw [hq];simpa using G
     simp [execOp,Instr.fieldAt,hx,run_underlying hu,hf,Instr.sureAddr,fieldPlace,lD hs,h3,tA,I]
    ·cases G
   ·cases hT
  ·cases hT
theorem R.ld1 {x:Operand} {t:TypeId} [hT:Ty P t false 1] {a:Addr} {v:Value} (hx:ev l x=.pointer (some a)) (hv:w.cell? a=some v):fP P l w (.load t x) (v):=fun d ty pos af=>by simp [execOp,Instr.loadAt,hx,Instr.sureAddr,KN hv]
theorem R.ldN {x:Operand} {t:TypeId} {k:Nat} [hT:Ty P t true k] {b o:Nat} {vs:List Value} (hx:ev l x=.pointer (some ⟨b,o,none⟩)) (hl:vs.length=k)
  (hv:∀ j v,vs[j]?=some v->w.cell? ⟨b,o+j,none⟩=some v):fP P l w (.load t x) ((.agg vs.toArray)):=fun d ty pos af=>by simp [execOp,Instr.loadAt,hx,Instr.sureAddr,pe hl hv]
end
def jQ (H:Array Obj) (b o:Nat):Option Value :=
 match H[b]? with
 | some (.cells c _ _)=>c[o]?
 | _=>none
theorem gU (w:World) (b o:Nat):w.cell? ⟨b,o,none⟩=jQ w.heap b o:=by
 unfold World.cell? jQ
 cases w.heap[b]? with
 | none=>rfl
 | some x=>cases x <;> rfl
theorem IW {H:Array Obj} {b o:Nat} {v:Value} (h:jQ H b o=some v):b < H.size:=by
 unfold jQ at h
 cases hb:H[b]? with
 | none=>exact zba
 | some x=>exact (Array.getElem?_eq_some_iff.1 hb).1
theorem Ext.c {S:Nat->Prop} {w w':World} (hx:Ext S w w') {b o:Nat} {v:Value} (h:jQ w.heap b o=some v) (hs:¬ S b):jQ w'.heap b o=some v:=by
 unfold jQ at *;rw [hx.block b (IW (H:=w.heap) (by unfold jQ;exact h)) hs];exact h
theorem zB {H:Array Obj} {b o:Nat} {cs:Array Value} {E:TypeId} {fz:Nat × Nat} {v:Value} (hb:H[b]?=some (.cells cs E fz)) (hv:cs[o]?=some v):jQ H b o=some v:=by
 unfold jQ;rw [hb];exact hv
theorem Ext.drew {S:Nat->Prop} (w:World):Ext S w w.drew:=⟨rfl,rfl,rfl,aI _,fun _ _ _=>rfl⟩
theorem R.ld {P:Program} {l:List Value} {w:World} {x:Operand} {t:TypeId} [hT:Ty P t false 1] {b o:Nat} {v:Value} (hx:ev l x=.pointer (some ⟨b,o,none⟩)) (hv:jQ w.heap b o=some v):fP P l w (.load t x) v:=R.ld1 hx (by rw [gU];exact hv)
theorem R.ldS {P:Program} {l:List Value} {w:World} {x:Operand} {t:TypeId} {k:Nat} [hT:Ty P t true k] {b o:Nat} {vs:List Value} (hx:ev l x=.pointer (some ⟨b,o,none⟩)) (hl:vs.length=k)
  (hv:∀ j v,vs[j]?=some v->jQ w.heap b (o+j)=some v):fP P l w (.load t x) (.agg vs.toArray):=R.ldN hx hl (fun j v h=>by rw [gU];exact hv j v h)
section
variable {H:Array Obj} {b o:Nat} {v0 v1 v2 v3 v4 v5:Value}
end
class tz (P:Program) (t:TypeId) (z:outParam Value):Prop where
 is:(P.info? t).bind (·.zero)=some z
structure xw (w w':World) (b:Nat) (cs:Array Value) (E:TypeId):Prop where
 blk:w'.heap[b]?=some (.cells cs E (0,0))
 ext:Ext (·=b) w w'
 size:w'.heap.size=w.heap.size
def yi (cs:Array Value) (o:Nat):List Value->Array Value
 | []=>cs
 | v::r=>yi (cs.setIfInBounds o v) (o+1) r
def pO (vs:List Value):Bool:=vs.all (·.oneCell')
section
variable {P:Program} {w:World}
theorem DW {t:TypeId} {z:Value} [h:tz P t z]:(zeroValue t).run P w=.ok z w:=by
 obtain ⟨h⟩:=h
 cases hq:P.info? t with
 | none=>simp [hq] at h
 | some i=>simp [hq] at h;simp [zeroValue,typeInfo,hq,h]
theorem xw.refl {b:Nat} {cs:Array Value} {E:TypeId} (hb:w.heap[b]?=some (.cells cs E (0,0))):xw w w b cs E:=⟨hb,Ext.refl _,rfl⟩
theorem xw.trans {w1 w2:World} {b:Nat} {cs Q0:Array Value} {E:TypeId} (h:xw w w1 b cs E) (k:xw w1 w2 b Q0 E):xw w w2 b Q0 E :=
 ⟨k.blk,h.ext.trans k.ext,k.size.trans h.size⟩
theorem xw.setCell {b o:Nat} {cs:Array Value} {E:TypeId} (hb:w.heap[b]?=some (.cells cs E (0,0))) (v:Value) :
  xw w (w.setCell ⟨b,o,none⟩ v) b (cs.setIfInBounds o v) E :=
 ⟨heap_setCell_same w b o cs E v hb,⟨rfl,rfl,rfl,by simp,fun k _ hs=>heap_setCell_other w _ k v hs⟩,by simp⟩
theorem zh {b o:Nat} {E:TypeId}:∀ (vs:List Value) (i:Nat) (w:World) (cs:Array Value),w.heap[b]?=some (.cells cs E (0,0))->o+i+vs.length<=cs.size->pO vs=true ->
  ∃ w',(storeCells ⟨b,o,none⟩ vs i).run P w=.ok () w'/\xw w w' b (yi cs (o+i) vs) E
 | [],i,w,cs,hb,_,_=>⟨w,by simp [storeCells],xw.refl hb⟩
 | v::r,i,w,cs,hb,hl,I=>by
  simp only [pO,all_cons,aK] at I;simp only [length_cons] at hl;have hs:=xw.setCell (w:=w) (o:=o+i) hb v;obtain ⟨w',hr,b6⟩:=zh (b:=b) (o:=o) (E:=E) r (i+1) _ _ hs.blk zgD I.2;refine ⟨w',?_,hs.trans (by simpa [yi,iJ] using b6)⟩;have hc:w.cell? ⟨b,o+i,none⟩=cs[o+i]?:=cell_of_row w b (o+i) cs E (0,0) hb;have dP:∃ u,w.cell? ⟨b,o+i,none⟩=some u:=⟨cs[o+i]'zgb,by rw [hc];simp⟩;obtain ⟨u,hu⟩:=dP;have hf:w.frozen? ⟨b,o+i,none⟩=false:=frozen_of_row w b _ cs E hb
  have adF:(store ((⟨b,o,none⟩:Addr).add i) v).run P w=.ok () (w.setCell ⟨b,o+i,none⟩ v):=by
   rw [tA]
   cases v <;> first | (simp [Value.oneCell'] at I;done) | simp [store,Sem.run,hu,hf]
  simp only [storeCells,Sem.run_bind,adF,Result.andThen_ok,hr]
theorem KO {t:TypeId} {agg:Bool} {k:Nat} [hT:Ty P t agg k] {b o:Nat} {E:TypeId} {cs:Array Value} {v:Value} (hb:w.heap[b]?=some (.cells cs E (0,0)))
  (hl:v.cells.size=k) (ho:o+k<=cs.size) (I:pO v.cells.toList=true) :
  ∃ w',(storeVar t ⟨b,o,none⟩ v).run P w=.ok () w'/\xw w w' b (yi cs o v.cells.toList) E:=by
 obtain ⟨w',hr,hs⟩:=zh (P:=P) (o:=o) v.cells.toList 0 w cs hb zgD I;refine ⟨w',?_,by simpa using hs⟩;simp [storeVar,lD hT.siz,hl,hr]
end
def pf:List Value->Nat->List Value->List Value
 | cs,_,[]=>cs
 | cs,o,v::r=>pf (gJ cs o v) (o+1) r
def tE (pl:Nat->Option (Nat × Nat)):List Value->List (Nat × Value)->Option (List Value)
 | cs,[]=>some cs
 | cs,(i,v)::r=>match pl i with
  | none=>none
  | some (o,k)=>if v.cells.size≠k || decide (o+v.cells.size > cs.length) then none else tE pl (pf cs o v.cells.toList) r
theorem Eg:∀ (vs:List Value) (cs:List Value) (o n:Nat),
  (vs.zipIdx n).foldl (fun (cs:Array Value) (x:Value × Nat)=>cs.setIfInBounds (o+x.2) x.1) cs.toArray=(pf cs (o+n) vs).toArray
 | [],cs,o,n=>by simp [pf]
 | v::r,cs,o,n=>by
  simp only [List.zipIdx_cons,List.foldl_cons,Fm,pf];rw [Eg r];rfl
theorem A7 (pl:Nat->Option (Nat × Nat)):∀ (parts:List (Nat × Value)) (cs:List Value),
  Instr.fill pl cs.toArray parts=(tE pl cs parts).map List.toArray
 | [],cs=>by simp [Instr.fill,tE]
 | (i,v)::r,cs=>by
  simp only [Instr.fill,tE]
  cases hp:pl i with
  | none=>rfl
  | some x =>
   obtain ⟨o,k⟩:=x;simp only [size_toArray];split
   ·rfl
   ·have h:(v.cells.zipIdx.foldl (fun (cs:Array Value) (x:Value × Nat)=>cs.setIfInBounds (o+x.2) x.1) cs.toArray)=(pf cs o v.cells.toList).toArray:=by
     have:=Eg v.cells.toList cs o 0;rw [<-Array.foldl_toList,Array.toList_zipIdx];exact this
    have G:=A7 pl r (pf cs o v.cells.toList);rw [<-G,<-h]
def XL (P:Program) (t:TypeId) (pl:List (Nat × Nat)):Bool :=
 match P.underlying t with
 | some (.struct fs)=>(fs.toList.map fun f=>(f.offset,(P.info? f.type).map (·.size)))==pl.map fun x=>(x.1,some x.2)
 | _=>false
class wA (P:Program) (t:TypeId) (pl:outParam (List (Nat × Nat))) (z:outParam (List Value)):Prop where
 is:XL P t pl=true
 zero:(P.info? t).bind (·.zero)=some (.agg z.toArray)
section
variable {P:Program} {w:World}
theorem Fb {fs:List Field}:∀ {pl:List (Nat × Nat)},(fs.map fun f=>(f.offset,(P.info? f.type).map (·.size)))=(pl.map fun x=>(x.1,some x.2)) ->
  (List.mapM (m:=Sem) (fun (f:Field)=>Functor.map (Prod.mk f.offset) (sizeOf f.type)) fs).run P w=.ok pl w:=by
 induction fs with
 | nil=>intro pl h;cases pl with | nil=>simp | cons=>simp at h
 | cons f fs ih =>
  intro pl h
  cases pl with
  | nil=>simp at h
  | cons x pl =>
   simp only [List.map_cons,List.cons.injEq,Prod.mk.injEq] at h;obtain ⟨⟨I,G⟩,h3⟩:=h;have:=ih h3;have h5:=lD (w:=w) G;simp [List.mapM_cons,Sem.run_bind,h5,this,I]
theorem run_build {t:TypeId} {pl:List (Nat × Nat)} {z:List Value} [hT:wA P t pl z] {parts:List (Nat × Value)} {cs:List Value} (hf:tE (fun i=>pl[i]?) z parts=some cs) :
  (Instr.build t parts.toArray).run P w=.ok (.agg cs.toArray) w:=by
 obtain ⟨hi,hz⟩:=hT
 have J3:(zeroValue t).run P w=.ok (.agg z.toArray) w:=by
  haveI:tz P t (.agg z.toArray):=⟨hz⟩
  exact DW
 unfold XL at hi;split at hi
 ·rename_i fs hu;have hm:=Fb (P:=P) (w:=w) (eq_of_beq hi)
  have nT:(Array.mapM (m:=Sem) (fun (f:Field)=>Functor.map (Prod.mk f.offset) (sizeOf f.type)) fs).run P w=.ok pl.toArray w:=by
   rw [Array.mapM_eq_mapM_toList];simp [hm]
  have ki:=A7 (fun i=>pl[i]?) parts z;rw [hf] at ki;simp [Instr.build,Sem.run_bind,J3,run_underlying hu,nT,Value.cells];simp [ki]
 ·cases hi
end
section
variable {P:Program} {Q:oJ} {l:List Value} {w:World} {ops:Array Oper} {rest:List Oper} {d:Option Tmp} {ty:TypeId} {pos:String} {af:Array Edge}
theorem Fc (t:TypeId) (v:Value):(newVar t v).run P w=.ok ⟨w.heap.size,0,none⟩ (w.alloc (.cells v.cells t)):=by
 rfl
theorem WL.alloc {t:TypeId} {z:Value} [hT:tz P t z] (h:∀ b w',yn w w' b (.cells z.cells t)->WL P ops Q rest (put l d (.pointer (some ⟨b,0,none⟩))) w') :
  WL P ops Q (⟨d,.alloc t,ty,pos,af,none⟩::rest) l w :=
 WL.val (w':=w.alloc (.cells z.cells t)) (by simp [execOp,Instr.alloc,DW (w:=w) (z:=z),Fc]) (h _ _ (yn.of w _))
theorem WL.box {t:TypeId} {x:Operand} {v:Value} (hx:ev l x=v) (h:∀ b w',yn w w' b (.cells v.cells t)->WL P ops Q rest (put l d (.pointer (some ⟨b,0,none⟩))) w') :
  WL P ops Q (⟨d,.box t x,ty,pos,af,none⟩::rest) l w :=
 WL.val (w':=w.alloc (.cells v.cells t)) (by simp [execOp,Instr.box,Fc,hx]) (h _ _ (yn.of w _))
theorem R.build {t:TypeId} {pl:List (Nat × Nat)} {z:List Value} [hT:wA P t pl z] {parts:List (Nat × Operand)} {cs:List Value}
  (hf:tE (fun i=>pl[i]?) z (parts.map fun x=>(x.1,ev l x.2))=some cs):fP P l w (.build t parts.toArray) (.agg cs.toArray):=fun d ty pos af=>by
  have hr:=run_build (P:=P) (w:=w) (t:=t) hf;simp only [execOp,map_toArray];simp [hr]
class tu (P:Program) (t:TypeId) (e:outParam TypeId) (k:outParam Nat) (z:outParam (List Value)):Prop where
 und:P.underlying t=some (.slice e)
 siz:(P.info? e).map (·.size)=some k
 zero:(P.info? e).bind (·.zero)=some (if k=1 then z.headD undef else .agg z.toArray)
 zl:z.length=k
 pos:0 < k
 one:k=1->(z.headD undef).cells=#[z.headD undef]
theorem tu.cells {t e:TypeId} {k:Nat} {z:List Value} (h:tu P t e k z):(if k=1 then z.headD undef else .agg z.toArray).cells=z.toArray:=by
 split
 ·rename_i hk;rw [h.one hk];have:=h.zl;rw [hk] at this
  match z,this with
  | [a],_=>rfl
 ·rfl
theorem WL.F8 {t e:TypeId} {k:Nat} {z:List Value} [hT:tu P t e k z] {n:Nat} {parts:List (Nat × Operand)} {cs:List Value} (hn:n * k<=16777216)
  (hf:tE (fun i=>some (i * k,k)) ((List.range (n * k)).map fun j=>z.getD (j % k) undef) (parts.map fun x=>(x.1,ev l x.2))=some cs)
  (h:∀ b w',yn w w' b (.cells cs.toArray e)->WL P ops Q rest (put l d (.slice (some ⟨b,0,none⟩) n n)) w') :
  WL P ops Q (⟨d,.buildSlice t n parts.toArray,ty,pos,af,none⟩::rest) l w :=
 WL.val (w':=w.alloc (.cells cs.toArray e)) (by
  have hz:(zeroValue e).run P w=.ok (if k=1 then z.headD undef else .agg z.toArray) w:=by
   haveI:tz P e (if k=1 then z.headD undef else .agg z.toArray):=⟨hT.zero⟩
   exact DW
  have hc:=hT.cells;generalize (if k=1 then z.headD undef else .agg z.toArray:Value)=zv at hz hc;have ki:=A7 (fun i=>some (i * k,k)) (parts.map fun x=>(x.1,ev l x.2)) ((List.range (n * k)).map fun j=>z.getD (j % k) undef);rw [hf] at ki
  have yR:¬ (16777216 < n * k):=by omega
  by_cases h0:n * k=0
  ·have h00:n=0:=by
    rcases Nat.mul_eq_zero.1 h0 with h | h
    ·exact h
    ·have:=hT.pos;omega
   subst h00;simp only [Nat.zero_mul,List.range_zero,map_nil] at ki;simp only [execOp,map_toArray];have sU:(Array.range 0)=#[]:=rfl;simp [Instr.buildSlice,run_underlying hT.und,lD hT.siz,sU,ki];rfl
  ·have he:(Array.range (n * k)).map (fun j=>z.toArray[j % z.toArray.size]!)=((List.range (n * k)).map fun j=>z.getD (j % k) undef).toArray:=by
    apply Array.ext';simp only [Array.toList_map,Array.toList_range];apply List.map_congr_left;intro j _;have hk:=hT.pos
    have au:j % k < z.length:=by rw [hT.zl];exact Nat.mod_lt _ hk
    rw [List.getD_eq_getElem?_getD,bV au];simp [hT.zl];rw [bV au];rfl
   rw [<-he] at ki;simp only [execOp,map_toArray];simp [Instr.buildSlice,run_underlying hT.und,lD hT.siz,yR,h0,hz,hc];simp only [size_toArray] at ki;simp at ki;simp [ki]
   rfl) (h _ _ (yn.of w _))
theorem WL.st {x y:Operand} {t:TypeId} {agg:Bool} {k:Nat} [hT:Ty P t agg k] {b o:Nat} {E:TypeId} {cs:Array Value} {v:Value} (hx:ev l x=.pointer (some ⟨b,o,none⟩)) (hy:ev l y=v)
  (hb:w.heap[b]?=some (.cells cs E (0,0))) (hl:v.cells.size=k) (ho:o+k<=cs.size) (I:pO v.cells.toList=true)
  (h:∀ w',xw w w' b (yi cs o v.cells.toList) E->WL P ops Q rest (put l d undef) w'):WL P ops Q (⟨d,.store t x y,ty,pos,af,none⟩::rest) l w:=by
 obtain ⟨w',hr,hs⟩:=KO (P:=P) (t:=t) hb hl ho I;exact WL.skp (w':=w') (by simp [execOp,Instr.storeAt,hx,hy,Instr.sureAddr,hr]) (h w' hs)
end
def I5 (P:Program) (f:FuncId):Bool :=
 match P.funcs[f]? with
 | some fn=>fn.name != "runtime.NumGoroutine" && fn.body.isSome
 | none=>false
class aO (P:Program) (f:FuncId):Prop where
 ok:I5 P f=true
def pV (P:Program) (f:FuncId) (args:List Value) (w:World) (R:Value->World->Prop):Prop :=
 Calls P f args.toArray w fun e w'=>∃ v,e=.returned v/\R v w'
theorem pV.mono {P:Program} {f:FuncId} {args:List Value} {w:World} {R R':Value->World->Prop} (h:pV P f args w R) (hr:∀ v w',R v w'->R' v w'):pV P f args w R' :=
 Calls.mono h fun _ _ ⟨v,he,r⟩=>⟨v,he,hr _ _ r⟩
theorem rh {P:Program} {w:World} {f:FuncId} [h:aO P f] (args:Array Value):(callFunc f args).run P w=.ok (.enter f args) w:=by
 obtain ⟨h⟩:=h;unfold I5 at h;split at h
 ·rename_i fn hf;simp only [aK,bne_iff_ne,ne_eq] at h
  have G:fn.body.isNone=false:=by cases hb:fn.body <;> simp_all
  simp [callFunc,program,Sem.run,hf,h.1,G];intro hn;simp [hn] at G
 ·cases h
section
variable {P:Program} {Q:oJ} {l:List Value} {w:World} {ops:Array Oper} {rest:List Oper} {d:Option Tmp} {ty:TypeId} {pos:String} {af:Array Edge}
theorem WL.calls {op:Op} {f:FuncId} {FB:List Value} (hr:(execOp (ev l) ⟨d,op,ty,pos,af,none⟩).run P w=.ok (.enter f FB.toArray) w) {R:Value->World->Prop}
  (hc:pV P f FB w R) (h:∀ v w',R v w'->WL P ops Q rest (put l d v) w'):WL P ops Q (⟨d,op,ty,pos,af,none⟩::rest) l w:=by
 refine wpList_plain rfl fun K hK=>?_
 simp only [Oper.wp,qN,hr,Oper.upon_enter];refine Calls.mono hc ?_;rintro e w' ⟨v,rfl,hv⟩;simp only [sJ];exact hK _ _ (h v w' hv)
theorem WL.call {f:FuncId} [hf:aO P f] {args:List Operand} {rJ:Array TypeId} {FB:List Value} (ha:args.map (ev l)=FB) {R:Value->World->Prop}
  (hc:pV P f FB w R) (h:∀ v w',R v w'->WL P ops Q rest (put l d v) w'):WL P ops Q (⟨d,.call ⟨.value (.func f),args.toArray,rJ⟩,ty,pos,af,none⟩::rest) l w :=
 WL.calls (by simp [execOp,resolve,ev,Deferred.ofValue,invoke,rh,ha]) hc h
end
def KJ:Nat->List Value
 | 0=>[]
 | n+1=>undef::KJ n
def frame:List Value->Nat->List Value
 | [],n=>KJ n
 | a::r,n=>a::frame r (n - 1)
theorem aa8 (n:Nat):KJ n=List.replicate n undef:=by
 induction n with
 | zero=>rfl
 | succ n ih=>rw [KJ,ih];rfl
theorem UR (args:List Value) (n:Nat):frame args n=args++List.replicate (n - args.length) undef:=by
 induction args generalizing n with
 | nil=>simp [frame,aa8]
 | cons a r ih=>rw [frame,ih];simp [Nat.sub_sub,Nat.add_comm]
def Wy (P:Program) (fn:Func) (R:Value->World->Prop):oJ
 | .normal,l,w | .ret,l,w=>∃ v,(results fn l.toArray).run P w=.ok v w/\R v w
 | _,_,_=>False
theorem pV.enter {P:Program} {f:FuncId} {fn:Func} {c:Code} {args:List Value} {w:World} {R:Value->World->Prop} {n:Nat} {l:List Value}
  (hf:P.funcs[f]?=some fn) (hn:fn.ntmps=n) (hb:fn.body=some c) (hl:frame args n=l) (h:W P c (Wy P fn R) l w):pV P f args w R:=by
 subst hl;refine calls_of_wp hf hb ?_
 have sS:(args.toArray++Array.replicate (fn.ntmps - args.toArray.size) undef)=(frame args n).toArray:=by
  simp [UR,hn]
 rw [sS];refine wp_mono h ?_;rintro e a w ⟨l,rfl,hq⟩
 cases e <;> simp only [Wy] at hq <;> simp only [bodyPost]
 ·obtain ⟨v,hr,hv⟩:=hq;exact ⟨rfl,v,hr,v,rfl,hv⟩
 ·obtain ⟨v,hr,hv⟩:=hq;exact ⟨rfl,v,hr,v,rfl,hv⟩
def ZQ (P:Program) (t e k lG:Nat):Bool :=
 (match P.underlying t with | some (.slice e')=>e'==e | _=>false) &&
 (match P.info? e with
  | some i=>(match i.zero with | some z=>z.cells.size==k | none=>false)&&i.size==k&&i.bytes==lG
  | none=>false)&&k != 0
class rR (P:Program) (t:TypeId) (e:outParam TypeId) (k:outParam Nat) (lG:outParam Nat):Prop where
 is:ZQ P t e k lG=true
theorem rR.parts {P:Program} {t e k lG:Nat} (h:rR P t e k lG) :
  P.underlying t=some (.slice e)/\(∃ i z,P.info? e=some i/\i.zero=some z/\z.cells.size=k/\i.size=k/\i.bytes=lG)/\0 < k:=by
 obtain ⟨h⟩:=h;simp only [ZQ,aK,bne_iff_ne,ne_eq] at h;obtain ⟨⟨I,G⟩,h3⟩:=h;refine ⟨?_,?_,by omega⟩
 ·split at I
  ·rename_i e' hu;rw [hu];simp at I;rw [I]
  ·cases I
 ·split at G
  ·rename_i i hi;simp only [aK,beq_iff_eq] at G;obtain ⟨⟨h4,h5⟩,h6⟩:=G;split at h4
   ·rename_i z hz;exact ⟨i,z,hi,hz,by simpa using h4,h5,h6⟩
   ·cases h4
  ·cases G
abbrev jH (w:World) (base:Nat) (e k:Nat) (v:Value) (n:Nat) (xs:List Value):Prop:=w.ownsRow base e k v n xs
theorem jH.nil (w:World) (base e k:Nat):jH w base e k (.slice none 0 0) 0 []:=World.ownsRow_nil w base e k
theorem jH.ext {S:Nat->Prop} {w w':World} {base e k:Nat} {v:Value} {n:Nat} {xs:List Value} (h:jH w base e k v n xs) (hx:Ext S w w') (hs:∀ b,v.ownBlock=some b->¬ S b):jH w' base e k v n xs:=by
 obtain ⟨I,G⟩:=h;refine ⟨I,?_⟩
 rcases G with G | ⟨g,cap,cur,rfl,hb,hg,r⟩
 ·exact .inl G
 ·exact .inr ⟨g,cap,cur,rfl,hb,hx.blk hg (hs g rfl),r⟩
theorem jH.lt {w:World} {base e k:Nat} {v:Value} {n:Nat} {xs:List Value} (h:jH w base e k v n xs) {b:Nat} (hv:v.ownBlock=some b):base<=b/\b < w.heap.size:=by
 obtain ⟨I,G⟩:=h
 rcases G with ⟨rfl,_⟩ | ⟨g,cap,cur,rfl,hb,hg,r⟩
 ·cases hv
 ·simp only [Value.ownBlock,Option.some.injEq] at hv;subst hv;exact ⟨hb,vu hg⟩
theorem jH.shape {w:World} {base e k:Nat} {v:Value} {n:Nat} {xs:List Value} (h:jH w base e k v n xs):∃ a c,v=.slice a n c:=by
 obtain ⟨I,G⟩:=h
 rcases G with ⟨rfl,rfl⟩ | ⟨g,cap,cur,rfl,_⟩
 ·exact zaJ
 ·exact zaJ
theorem jH.base {w:World} {base Wx e k:Nat} {v:Value} {n:Nat} {xs:List Value} (h:jH w base e k v n xs) (hb:Wx<=base):jH w Wx e k v n xs:=by
 obtain ⟨I,G⟩:=h;refine ⟨I,?_⟩
 rcases G with G | ⟨g,cap,cur,rfl,bG,r⟩
 ·exact .inl G
 ·exact .inr ⟨g,cap,cur,rfl,jV hb bG,r⟩
theorem jH.cells {w:World} {base e k:Nat} {v:Value} {n:Nat} {xs:List Value} (h:jH w base e k v n xs) :
  xs.length=n * k/\(xs≠[]->∃ b c,v=.slice (some ⟨b,0,none⟩) n c/\base<=b/\b < w.heap.size/\∀ j u,xs[j]?=some u->w.cell? ⟨b,j,none⟩=some u):=by
 obtain ⟨I,G⟩:=h;refine ⟨I,fun cj=>?_⟩
 rcases G with ⟨rfl,rfl⟩ | ⟨g,cap,cur,rfl,hb,hg,hn,hm,dj,ht⟩
 ·simp at I;exact absurd I cj
 ·refine ⟨g,cap,rfl,hb,vu hg,fun j u hj=>?_⟩;rw [cell_of_row w g j cur e (0,0) hg];rw [<-ht] at hj;rw [getElem?_take] at hj;split at hj
  ·simpa using hj
  ·cases hj
theorem jH.aaW {w w':World} {b e k n:Nat} {cs:List Value} (h:yn w w' b (.cells cs.toArray e)) (hl:cs.length=n * k) (hm:n<=maxLen):jH w' w.heap.size e k (.slice (some ⟨b,0,none⟩) n n) n cs :=
 ⟨hl,.inr ⟨b,n,cs.toArray,rfl,by rw [h.fresh];exact aI _,h.blk,aI _,hm,by simpa using hl,by simp [<-hl]⟩⟩
section
variable {P:Program} {Q:oJ} {l:List Value} {w:World} {ops:Array Oper} {rest:List Oper} {d:Option Tmp} {ty:TypeId} {pos:String} {af:Array Edge}
theorem WL.app {s x:Operand} {t e k lG:Nat} [hT:rR P t e k lG] {base n m c b o:Nat} {xs news:List Value} {v:Value} (hs:ev l s=v) (gT:jH w base e k v n xs)
  (hx:ev l x=.slice (some ⟨b,o,none⟩) m c) (hl:news.length=m * k) (W8:∀ j u,news[j]?=some u->w.cell? ⟨b,o+j,none⟩=some u) (I:pO news=true)
  (h63:n+m<=9223372036854775807) (Bg:(n+m) * lG<=140737488355328) (Ep:base<=w.heap.size)
  (h:∀ v' w',jH w' base e k v' (n+m) (xs++news)->Ext (fun b=>v.ownBlock=some b) w w'->(∀ b,v'.ownBlock=some b->v.ownBlock=some b\/w.heap.size<=b)->(Ext iI w w'\/v'.ownBlock=v.ownBlock)->WL P ops Q rest (put l d v') w') :
  WL P ops Q (⟨d,.call ⟨.builtin .append,#[s,x],#[t,t]⟩,ty,pos,af,none⟩::rest) l w:=by
 obtain ⟨hu,⟨i,z,hi,hz,hzs,dj,Et⟩,hk⟩:=hT.parts;obtain ⟨v',w',hr,G,h3,h4⟩:=run_append_own (P:=P) w base t ty e i z k lG hu hi hz dj Et hzs hk v n xs gT ⟨b,o,none⟩ m c news hl
  (fun j u hj=>by rw [tA];exact W8 j u hj) zhd (by simpa [maxLen] using h63) Bg Ep
 have lf:Ext (fun b=>v.ownBlock=some b) w w':=⟨h3.os,h3.tape,h3.output,h3.size,fun j hj hn=>h3.block j hj fun he=>hn he.symm⟩
 have Bn:∀ j u,news[j]?=some u->w.cell? ((⟨b,o,none⟩:Addr).add j)=some u:=fun j u hj=>by rw [tA];exact W8 j u hj
 have lH:news.length=m * i.size:=by rw [dj];exact hl
 have U4:(n+m) * i.bytes<=140737488355328:=by rw [Et];exact Bg
 refine WL.val (v:=v') (w':=w') (by simp [execOp,resolve,invoke,builtin,hs,hx,hr]) (h v' w' G lf ?_ ?_)
 ·intro b' bG;have ED:=gT.2
  rcases ED with ⟨rfl,rfl⟩ | ⟨g,cap,cur,rfl,qU,hg,ui,CW,jL,EH⟩
  ·by_cases hm:m=0
   ·have:=h4.2 ⟨rfl,hm⟩;subst this;cases bG
   ·have eR:=run_append_nil (P:=P) w t ty e i z hu hi hz ⟨b,o,none⟩ m c news lH Bn zgb zgb (by simp only [dJ] at U4;omega);rw [hr] at eR;cases eR;exact zbi
  ·by_cases hroom:n+m<=cap
   ·have eR:=run_append_room (P:=P) w t ty e i hu hi g n cap cur hg ⟨b,o,none⟩ m c news lH Bn zhd hroom
     zgZ
    rw [hr] at eR;cases eR;exact .inl bG
   ·have holds:∀ j u,xs[j]?=some u->w.cell? ((⟨g,0,none⟩:Addr).add j)=some u:=World.ownsRow.cells (g:=g) gT rfl;have eR:=run_append_grow (P:=P) w t ty e i z hu hi hz ⟨g,0,none⟩ n cap xs zgR holds ⟨b,o,none⟩ m c news lH Bn zgb zgb (growslice_fits zgb U4);rw [hr] at eR;cases eR;exact zbi
 ·have ED:=gT.2
  rcases ED with ⟨rfl,rfl⟩ | ⟨g,cap,cur,rfl,qU,hg,ui,CW,jL,EH⟩
  ·exact .inl (lf.mono fun k _ hk=>by cases hk)
  ·by_cases hroom:n+m<=cap
   ·have eR:=run_append_room (P:=P) w t ty e i hu hi g n cap cur hg ⟨b,o,none⟩ m c news lH Bn zhd hroom
     zgZ
    rw [hr] at eR;cases eR;exact zbB
   ·have holds:∀ j u,xs[j]?=some u->w.cell? ((⟨g,0,none⟩:Addr).add j)=some u:=World.ownsRow.cells (g:=g) gT rfl;have eR:=run_append_grow (P:=P) w t ty e i z hu hi hz ⟨g,0,none⟩ n cap xs zgR holds ⟨b,o,none⟩ m c news lH Bn zgb zgb (growslice_fits zgb U4);rw [hr] at eR;cases eR;exact zdu
theorem WL.push {x s:Operand} {t e k lG:Nat} {z:List Value} [hT:rR P t e k lG] [hZ:tu P t e k z] {base n:Nat} {xs vs:List Value} {v val:Value} {d1:Tmp} {TG:TypeId} {KD:String} {Qy:Array Edge}
  (hx:ev l x=val) (hs:∀ u,ev (put l (some d1) u) s=v) (hd:∀ u,ev (put l (some d1) u) (.tmp d1)=u) (hc:val.cells=vs.toArray) (hk:vs.length=k) (I:pO vs=true)
  (gT:jH w base e k v n xs) (h63:n+1<=9223372036854775807) (Bg:(n+1) * lG<=140737488355328) (aef:k<=16777216) (Ep:base<=w.heap.size)
  (h:∀ u v' w',jH w' base e k v' (n+1) (xs++vs)->Ext (fun b=>v.ownBlock=some b) w w'->(∀ b,v'.ownBlock=some b->v.ownBlock=some b\/w.heap.size<=b)->(Ext iI w w'\/v'.ownBlock=v.ownBlock)->WL P ops Q rest (put (put l (some d1) u) d v') w') :
  WL P ops Q (⟨some d1,.buildSlice t 1 #[(0,x)],TG,KD,Qy,none⟩::⟨d,.call ⟨.builtin .append,#[s,.tmp d1],#[t,t]⟩,ty,pos,af,none⟩::rest) l w:=by
 have hkp:=hZ.pos
 have dj:val.cells.size=k:=by rw [hc];simpa using hk
 have jB:∀ (vs cs:List Value),vs.length=cs.length->pf cs 0 vs=vs:=by
  have gen:∀ (vs pre cs:List Value),vs.length=cs.length->pf (pre++cs) pre.length vs=pre++vs:=by
   intro vs
   induction vs with
   | nil=>intro pre cs hl;cases cs <;> simp_all [pf]
   | cons a r ih =>
    intro pre cs hl
    cases cs with
    | nil=>simp at hl
    | cons c cs =>
     have hu:gJ (pre++c::cs) pre.length a=pre++a::cs:=by
      clear hl
      induction pre with
      | nil=>rfl
      | cons p pre ihp=>simp [gJ,ihp]
     rw [pf,hu];have:=ih (pre++[a]) cs zge;exact zcm
  intro vs cs hl;exact gen vs [] cs hl
 have abX:tE (fun i=>some (i * k,k)) ((List.range (1 * k)).map fun j=>z.getD (j % k) undef) ([((0:Nat),x)].map fun y=>(y.1,ev l y.2))=some vs:=by
  simp only [List.map_cons,map_nil,tE,hx,dj];simp [hk,hc];exact jB vs _ zgy
 refine WL.F8 (n:=1) (parts:=[(0,x)]) zgb abX ?_;intro b2 w2 cx;have Pc:jH w2 base e k v n xs:=gT.ext cx.ext (fun _ _ h=>h);refine WL.app (base:=base) (v:=v) (n:=n) (xs:=xs) (news:=vs) (m:=1) (hs _) Pc (hd _) zgb (fun j u hj=>?_) I h63 Bg (jV Ep cx.ext.size) ?_
 ·rw [dJ];exact QE cx.blk zgp
 ·intro v' w3 ho Sh hb yT;refine h _ v' w3 ho ((cx.ext.mono (fun _ _ h=>h.elim)).trans Sh) (fun b bG=>?_) (yT.imp (fun h5=>cx.ext.trans h5) id)
  rcases hb b bG with h4 | h4
  ·exact .inl h4
  ·exact .inr (jV cx.ext.size h4)
end
section
variable {P:Program} {ops:Array Oper} {S:Nat->Prop}
end
def vJ:List Oper->Nat->Oper
 | [],_=>default
 | o::_,0=>o
 | _::r,n+1=>vJ r n
theorem YX (ol:List Oper) (i:Nat) (o:Oper) (h:ol.toArray[i]?=some o):vJ ol i=o:=by
 have h':ol[i]?=some o:=by simpa using h
 clear h
 induction ol generalizing i with
 | nil=>simp at h'
 | cons x r ih =>
  cases i with
  | zero=>simpa [vJ] using h'
  | succ i=>exact ih i (by simpa using h')
section
variable {P:Program} {ops:Array Oper} {S:Nat->Prop} {Q:oJ} {l:List Value} {w:World} {r:List (Oper × Bool)} {d:Option Tmp} {op:Op} {ty:TypeId} {pos:String} {af:Array Edge}
end
def P0:IntKind->IntKind->Bool
 | .i8,.i8 | .i16,.i16 | .i32,.i32 | .i64,.i64 | .u8,.u8 | .u16,.u16 | .u32,.u32 | .u64,.u64=>true
 | _,_=>false
theorem VW {a b:IntKind} (h:P0 a b=true):a=b:=by cases a <;> cases b <;> first | rfl | cases h
def O0 (op:BinOp) (a b:Int):Option Value :=
 match op with
 | .eql=>some (.bool (a==b))
 | .neq=>some (.bool (a != b))
 | .lss=>some (.bool (decide (a < b)))
 | .leq=>some (.bool (decide (a<=b)))
 | .gtr=>some (.bool (decide (b < a)))
 | .geq=>some (.bool (decide (b<=a)))
 | _=>none
def OZ (op:BinOp):Value->Value->Option Value
 | .int k a,.int k' b=>match P0 k k' with
  | true=>O0 op a b
  | false=>none
 | _,_=>none
def zK (c:Op) (x:Value):Option Value :=
 match c with
 | .nilCheck _=>match x with
  | .pointer (some a)=>some (.pointer (some a))
  | _=>none
 | .unOp .not _ _=>match x with
  | .bool b=>some (.bool (!b))
  | _=>none
 | .extract _ i=>match x with
  | .tuple vs=>vs[i]?
  | _=>none
 | _=>none
def go (ρ:Operand->Value) (o:Op):Option Value :=
 match o with
 | .move x=>some (ρ x)
 | .assign x=>some (ρ x)
 | .makeFunc fn f c=>some (.func fn (f.map ρ) (c.map ρ))
 | .binOp op _ x y _=>OZ op (ρ x) (ρ y)
 | .nilCheck x=>zK o (ρ x)
 | .unOp _ _ x=>zK o (ρ x)
 | .extract x _=>zK o (ρ x)
 | _=>none
section
variable {P:Program} {l:List Value} {w:World}
theorem Yy {o:Op} {v:Value} (h:go (ev l) o=some v):fP P l w o v:=by
 unfold go at h;split at h
 ·cases h;exact R.mv
 ·cases h;exact R.mG
 ·cases h;exact R.F7
 ·rename_i op t x y t';unfold OZ at h;split at h
  ·rename_i k a k' b hx hy;split at h
   ·rename_i hk;have:=VW hk;subst this;unfold O0 at h
    split at h <;> first | (cases h;done) | skip
    ·cases h;exact R.eq hx hy
    ·cases h;exact R.ne hx hy
    ·cases h;exact R.lt hx hy
    ·cases h;exact R.le hx hy
    ·cases h;exact R.gt' hx hy
    ·cases h;exact R.ge hx hy
   ·cases h
  ·cases h
 ·unfold zK at h;simp only at h;split at h
  ·rename_i a hx;cases h;exact R.PI hx
  ·cases h
 ·rename_i op t x;unfold zK at h
  cases op <;> simp only at h <;> first | (cases h;done) | skip
  split at h
  ·rename_i b hx;cases h;exact R.not hx
  ·cases h
 ·unfold zK at h;simp only at h;split at h
  ·rename_i vs hx;exact R.extract hx h
  ·cases h
 ·cases h
theorem R.addN {x y:Operand} {t t':TypeId} {a b:Nat} (hx:ev l x=ii a) (hy:ev l y=ii b) (hb:a+b<=9223372036854775807):fP P l w (.binOp .add t x y t') (ii ((a+b:Nat):Int)):=R.add hx hy zgb zgb
theorem R.kG {x y:Operand} {t t':TypeId} {a:Nat} (hx:ev l x=ii a) (hy:ev l y=ii 1) (hb:a+1<=9223372036854775807):fP P l w (.binOp .add t x y t') (ii ((a+1:Nat):Int)):=R.add hx hy zgb zgb
theorem R.XI {c a b:Operand} {t:Bool} (hc:ev l c=.bool t) (ht:t=true):fP P l w (.pick c a b) (ev l a):=by
 subst ht;exact R.pick hc
theorem R.XH {c a b:Operand} {t:Bool} (hc:ev l c=.bool t) (ht:t=false):fP P l w (.pick c a b) (ev l b):=by
 subst ht;exact R.pick hc
end
section
variable {P:Program} {Q:oJ} {l:List Value} {w:World} {ops:Array Oper} {rest:List Oper} {d:Option Tmp} {op:Op} {ty:TypeId} {pos:String} {af:Array Edge} {v:Value} {S:Nat->Prop} {r:List (Oper × Bool)}
end
def xX (ops:List Oper) (l:List Value):Option (Nat × Bool)->Bool
 | none=>true
 | some (j,b)=>match (vJ ops j).dst with
  | some t=>match nth l t with
   | .bool c=>c==b
   | _=>false
  | none=>false
def ly {α:Type}:List α->Nat->Bool
 | [],_=>false
 | _::_,0=>true
 | _::r,n+1=>ly r n
theorem EK {α:Type}:∀ {l:List α} {n:Nat},ly l n=true->n < l.length
 | [],_,h=>by cases h
 | _::_,0,_=>by simp
 | _::r,n+1,h=>by have:=EK (l:=r) (n:=n) h;simp;omega
def w7:Option (Nat × Bool)->List Oper->List Value->Bool
 | some (j,_),ops,l=>ly ops j&&(match (vJ ops j).dst with
  | some t=>ly l t&&(match nth l t with | .bool _=>true | .tuple _=>true | _=>false)
  | none=>false)
 | none,_,_=>true
theorem NL (ol:List Oper) (j:Nat) (h:j < ol.length):ol.toArray[j]?=some (vJ ol j):=by
 obtain ⟨o,ho⟩:∃ o,ol.toArray[j]?=some o:=⟨ol[j],by simp [h]⟩;rw [ho,YX ol j o ho]
theorem aaV (l:List Value) (t:Nat) (h:t < l.length):l[t]?=some (nth l t):=by
 induction l generalizing t with
 | nil=>simp at h
 | cons x l ih=>cases t with
  | zero=>rfl
  | succ t=>simpa [nth] using ih t zgc
theorem zr {ops:Array Oper} {d:Option Tmp} {op:Op} {ty:TypeId} {pos:String} {af:Array Edge} {gd:Option (Nat × Bool)} {l:List Value} (hb:w7 gd ops.toList l=true) :
  Region.wanted ⟨d,op,ty,pos,af,gd⟩ (yielded ops (act l).tmps)=xX ops.toList l gd:=by
 cases gd with
 | none=>rfl
 | some x =>
  obtain ⟨j,b⟩:=x;simp only [w7,aK] at hb;obtain ⟨I,G⟩:=hb;have hj:=NL ops.toList j (EK I);simp only [Array.toArray_toList] at hj;simp only [Region.wanted,xX,yielded,hj,Option.bind_some]
  cases hd:(vJ ops.toList j).dst with
  | none=>rw [hd] at G;cases G
  | some t =>
   rw [hd] at G;simp only [aK] at G;have ht:=aaV l t (EK G.1);simp only [Option.bind_some,act]
   have Bw:l.toArray[t]?=some (nth l t):=by simpa using ht
   rw [Bw]
   cases hv:nth l t <;> rw [hv] at G <;> simp_all
def gv (ops:List Oper) (l:List Value) (gd:Nat × Bool):Option Bool :=
 match (vJ ops gd.1).dst with
 | some t=>match nth l t with
  | .bool c=>some c
  | _=>none
 | none=>none
theorem TS {ops:List Oper} {l:List Value} {gd:Nat × Bool} {c:Bool} (hv:gv ops l gd=some c) (hc:c=gd.2):xX ops l (some gd)=true:=by
 obtain ⟨j,b⟩:=gd;unfold gv at hv;unfold xX;simp only at hv hc |-;split at hv
 ·rename_i t ht;split at hv
  ·rename_i c' dP;cases hv;simp [hc]
  ·cases hv
 ·cases hv
theorem TR {ops:List Oper} {l:List Value} {gd:Nat × Bool} {c:Bool} (hv:gv ops l gd=some c) (hc:c=!gd.2):xX ops l (some gd)=false:=by
 obtain ⟨j,b⟩:=gd;unfold gv at hv;unfold xX;simp only at hv hc |-;split at hv
 ·rename_i t ht;split at hv
  ·rename_i c' dP;cases hv;cases b <;> simp_all
  ·cases hv
 ·cases hv
theorem TT {ops:List Oper} {l:List Value} {gd:Nat × Bool} (hv:gv ops l gd=none):xX ops l (some gd)=false:=by
 obtain ⟨j,b⟩:=gd;unfold gv at hv;unfold xX;simp only at hv |-;split at hv
 ·rename_i t ht;split at hv
  ·cases hv
  ·first | rfl | (split <;> simp_all)
 ·rfl
section
variable {P:Program} {Q:oJ} {l:List Value} {w:World} {ops:Array Oper} {rest:List Oper} {d:Option Tmp} {op:Op} {ty:TypeId} {pos:String} {af:Array Edge} {v:Value} {S:Nat->Prop} {r:List (Oper × Bool)} {gd:Nat × Bool}
theorem GT {c:Bool} (hb:w7 (some gd) ops.toList l=true) (hv:gv ops.toList l gd=some c) (hc:c=gd.2) (h:WL P ops Q (⟨d,op,ty,pos,af,none⟩::rest) l w):WL P ops Q (⟨d,op,ty,pos,af,some gd⟩::rest) l w:=WL.gt ((zr hb).trans (TS hv hc)) h
theorem GF {c:Bool} (hb:w7 (some gd) ops.toList l=true) (hv:gv ops.toList l gd=some c) (hc:c=!gd.2) (h:WL P ops Q rest (put l d undef) w):WL P ops Q (⟨d,op,ty,pos,af,some gd⟩::rest) l w:=WL.gf ((zr hb).trans (TR hv hc)) h
theorem GU (hb:w7 (some gd) ops.toList l=true) (hv:gv ops.toList l gd=none) (h:WL P ops Q rest (put l d undef) w):WL P ops Q (⟨d,op,ty,pos,af,some gd⟩::rest) l w:=WL.gf ((zr hb).trans (TT hv)) h
end
def PO:Value->Bool
 | .agg _=>false
 | .tuple _=>false
 | _=>true
theorem Ak {v:Value} (h:PO v=true):v.cells=#[v]/\v.oneCell'=true:=by
 cases v <;> first | exact ⟨rfl,rfl⟩ | cases h
end Go.Xw
namespace Go.Xg
open Go.RowKit Go.Xw
inductive GV where
 | v (x:Value)
 | U
 | agg (cs:List GV)
 | tup (cs:List GV)
 | sl (k:Nat) (rows:List (List GV))
 | box (cs:List GV) (o:Nat)
 | loc (i o:Nat)
 | vec (i n:Nat)
 | vp (i n k idx off:Nat)
 | arr (i o n:Nat)
 | fn (f:Fn) (first cap:List GV)
open GV (U)
abbrev Fz:=Nat->Nat->Option GV
inductive Bk where
 | no
 | fix (b:Nat)
 | gr (h:Value) (m:Nat)
 | set (S:Nat->Prop)
def Bk.has:Bk->Nat->Prop
 | .no,_=>False
 | .fix b,c=>b=c
 | .gr h _,c=>h.ownBlock=some c
 | .set S,c=>S c
abbrev Bt:=Nat->Bk
def df (K K':Fz):Prop:=∀ b o g,K b o=some g->K' b o=some g
def vD:Bk->Bk->Prop
 | .no,_=>True
 | .fix b,x=>x=.fix b
 | .set _,_=>True
 | .gr h m,x=>∃ h' m',x=.gr h' m'/\m<=m'/\(m'=m->h'=h)
def eg (β b9:Bt):Prop:=∀ i,vD (β i) (b9 i)
theorem df.refl (K:Fz):df K K:=fun _ _ _ h=>h
theorem df.trans {a b c:Fz} (h:df a b) (k:df b c):df a c:=fun x y z hz=>k x y z (h x y z hz)
theorem vD.refl (x:Bk):vD x x:=by cases x with | no=>trivial | fix b=>rfl | gr h m=>exact ⟨h,m,rfl,aI _,fun _=>rfl⟩ | set S=>trivial
theorem vD.trans {a b c:Bk} (h:vD a b) (k:vD b c):vD a c:=by
 cases a with
 | no=>trivial
 | set S=>trivial
 | fix x=>cases h;exact k
 | gr x m =>
  obtain ⟨x',m',rfl,I,G⟩:=h;obtain ⟨x2,m2,rfl,h3,h4⟩:=k
  exact ⟨x2,m2,rfl,jV I h3,fun he=>by
   have:m'=m:=by omega
   rw [h4 zgb,G this]⟩
theorem eg.refl (β:Bt):eg β β:=fun i=>vD.refl _
theorem eg.trans {a b c:Bt} (h:eg a b) (k:eg b c):eg a c:=fun i=>(h i).trans (k i)
inductive Rel (K:Fz) (β:Bt):Value->GV->Prop
 | v (x:Value):Rel K β x (.v x)
 | U (x:Value):Rel K β x .U
 | agg (vs:List Value) (cs:List GV) (hl:vs.length=cs.length) (h:∀ (i:Nat) v g,vs[i]?=some v->cs[i]?=some g->Rel K β v g):Rel K β (.agg vs.toArray) (.agg cs)
 | tup (vs:List Value) (cs:List GV) (hl:vs.length=cs.length) (h:∀ (i:Nat) v g,vs[i]?=some v->cs[i]?=some g->Rel K β v g):Rel K β (.tuple vs.toArray) (.tup cs)
 | sl0 (a:Option Addr) (c k:Nat):Rel K β (.slice a 0 c) (.sl k [])
 | sl (b o c k:Nat) (rows:List (List GV)) (h:∀ (i:Nat) r,rows[i]?=some r->r.length=k/\∀ (j:Nat) g,r[j]?=some g->K b (o+i * k+j)=some g) (hc:rows.length<=c):Rel K β (.slice (some ⟨b,o,none⟩) rows.length c) (.sl k rows)
 | box (b o' o:Nat) (cs:List GV) (h:∀ (j:Nat) g,cs[j]?=some g->K b (o'+j)=some g):Rel K β (.pointer (some ⟨b,o'+o,none⟩)) (.box cs o)
 | loc (i o b:Nat) (h:β i=.fix b):Rel K β (.pointer (some ⟨b,o,none⟩)) (.loc i o)
 | vec (i n:Nat) (a:Option Addr) (c:Nat) (h:∃ h m,β i=.gr h m/\n<=m/\(m=n->.slice a n c=h)):Rel K β (.slice a n c) (.vec i n)
 | vp (i n k idx off:Nat) (x:Value) (h:∃ h m,β i=.gr h m/\n<=m/\(m=n->∃ b,h.ownBlock=some b/\x=.pointer (some ⟨b,idx * k+off,none⟩))):Rel K β x (.vp i n k idx off)
 | arr (i o n b c:Nat) (h:β i=.fix b):Rel K β (.slice (some ⟨b,o,none⟩) n c) (.arr i o n)
 | fn (f:Fn) (xs ys:List Value) (first cap:List GV) (hl:xs.length=first.length) (lH:ys.length=cap.length) (h:∀ (i:Nat) v g,xs[i]?=some v->first[i]?=some g->Rel K β v g)
   (h':∀ (i:Nat) v g,ys[i]?=some v->cap[i]?=some g->Rel K β v g):Rel K β (.func f xs.toArray ys.toArray) (.fn f first cap)
theorem Rel.mono {K K':Fz} {β b9:Bt} {x:Value} {g:GV} (h:Rel K β x g) (hk:df K K') (hb:eg β b9):Rel K' b9 x g:=by
 induction h with
 | v x=>exact .v x
 | U x=>exact .U x
 | agg vs cs hl h ih=>exact .agg vs cs hl ih
 | tup vs cs hl h ih=>exact .tup vs cs hl ih
 | sl0 a c k=>exact .sl0 a c k
 | sl b o c k rows h hc=>exact .sl b o c k rows (fun i r hr=>⟨(h i r hr).1,fun j g hg=>hk _ _ _ ((h i r hr).2 j g hg)⟩) hc
 | box b o' o cs h=>exact .box b o' o cs fun j g hg=>hk _ _ _ (h j g hg)
 | loc i o b h=>exact .loc i o b zhh
 | vec i n a c h =>
  obtain ⟨h0,m,I,G,h3⟩:=h;have h4:=hb i;rw [I] at h4;obtain ⟨h',m',h5,h6,h7⟩:=h4;exact .vec i n a c ⟨h',m',h5,by omega,fun he=>by rw [h7 zgb];exact h3 zgb⟩
 | vp i n k idx off x h =>
  obtain ⟨h0,m,I,G,h3⟩:=h;have h4:=hb i;rw [I] at h4;obtain ⟨h',m',h5,h6,h7⟩:=h4;exact .vp i n k idx off x ⟨h',m',h5,by omega,fun he=>by rw [h7 zgb];exact h3 zgb⟩
 | arr i o n b c h=>exact .arr i o n b c zhh
 | fn f xs ys first cap hl lH h h' ih yV=>exact .fn f xs ys first cap hl lH ih yV
def GV.pc:GV->Bool
 | .v _=>true
 | .sl _ _=>true
 | .box _ _=>true
 | _=>false
theorem Rel.pc {K:Fz} {β b9:Bt} {x:Value} {g:GV} (h:Rel K β x g) (hp:g.pc=true):Rel K b9 x g:=by
 cases h <;> first | (cases hp;done) | skip
 ·exact .v _
 ·exact .sl0 _ _ _
 ·rename_i h hc;exact .sl _ _ _ _ _ h hc
 ·rename_i h;exact .box _ _ _ _ h
def GV.one:GV->Bool
 | .v x=>PO x
 | .U=>false
 | .agg _=>false
 | .tup _=>false
 | .vp _ _ _ _ _=>false
 | _=>true
theorem Rel.one {K:Fz} {β:Bt} {x:Value} {g:GV} (h:Rel K β x g) (ho:g.one=true):PO x=true:=by
 cases h <;> first | exact ho | rfl | (cases ho;done)
abbrev bC (K:Fz) (β:Bt) (vs:List Value) (gs:List GV):Prop:=vs.length=gs.length/\∀ (i:Nat) v g,vs[i]?=some v->gs[i]?=some g->Rel K β v g
theorem bC.mono {K K':Fz} {β b9:Bt} {vs:List Value} {gs:List GV} (h:bC K β vs gs) (hk:df K K') (hb:eg β b9):bC K' b9 vs gs:=⟨h.1,fun i v g I G=>(h.2 i v g I G).mono hk hb⟩
theorem bC.nil {K:Fz} {β:Bt}:bC K β [] []:=⟨rfl,fun i v g h=>by simp at h⟩
theorem bC.cons {K:Fz} {β:Bt} {v:Value} {g:GV} {vs:List Value} {gs:List GV} (h:Rel K β v g) (hs:bC K β vs gs):bC K β (v::vs) (g::gs):=by
 refine ⟨by simp [hs.1],fun i x y I G=>?_⟩
 cases i with
 | zero=>cases I;cases G;exact h
 | succ i=>exact hs.2 i x y I G
theorem bC.rj {K:Fz} {β:Bt} {v:Value} {g:GV} {vs:List Value} {gs:List GV} (h:bC K β (v::vs) (g::gs)):Rel K β v g/\bC K β vs gs :=
 ⟨h.2 0 v g rfl rfl,by simpa using h.1,fun i x y I G=>h.2 (i+1) x y I G⟩
theorem bC.app {K:Fz} {β:Bt} {vs us:List Value} {gs hs:List GV} (h:bC K β vs gs) (k:bC K β us hs):bC K β (vs++us) (gs++hs):=by
 induction vs generalizing gs with
 | nil =>
  have:gs=[]:=by have:=h.1;simp at this;exact ig this.symm
  subst this;exact k
 | cons v vs ih =>
  cases gs with
  | nil=>have:=h.1;simp at this
  | cons g gs=>obtain ⟨I,G⟩:=h.rj;exact .cons I (ih G)
theorem bC.at {K:Fz} {β:Bt} {vs:List Value} {gs:List GV} (h:bC K β vs gs) {i:Nat} {g:GV} (hg:gs[i]?=some g):∃ v,vs[i]?=some v/\Rel K β v g:=by
 have hi:i < vs.length:=by rw [h.1];exact (bB hg).1
 exact ⟨vs[i],by simp [hi],h.2 i _ g zgT hg⟩
theorem bC.take {K:Fz} {β:Bt} {vs:List Value} {gs:List GV} (h:bC K β vs gs) (n:Nat):bC K β (vs.take n) (gs.take n):=by
 refine ⟨by simp [h.1],fun i x y I G=>?_⟩;rw [getElem?_take] at I G;split at I
 ·rename_i hi;rw [ah hi] at G;exact h.2 i x y I G
 ·cases I
theorem bC.drop {K:Fz} {β:Bt} {vs:List Value} {gs:List GV} (h:bC K β vs gs) (n:Nat):bC K β (vs.drop n) (gs.drop n):=by
 refine ⟨by simp [h.1],fun i x y I G=>?_⟩;rw [getElem?_drop] at I G;exact h.2 _ x y I G
def dc:List GV->Nat->GV
 | [],_=>.U
 | g::_,0=>g
 | _::l,n+1=>dc l n
def bX:List GV->Nat->GV->List GV
 | [],_,_=>[]
 | _::l,0,g=>g::l
 | x::l,n+1,g=>x::bX l n g
def bq (l:List GV):Operand->GV
 | .tmp t=>dc l t
 | .const v=>.v v
 | .global g=>.v (.pointer (some ⟨g,0,none⟩))
 | .func f=>.v (.func (.func f) #[] #[])
def bR (l:List GV) (d:Option Tmp) (g:GV):List GV:=match d with | some d=>bX l d g | none=>l
inductive FR (K:Fz) (β:Bt):List GV->List Value->Prop
 | nil:FR K β [] []
 | cons {g:GV} {v:Value} {gs:List GV} {vs:List Value} (h:Rel K β v g) (t:FR K β gs vs):FR K β (g::gs) (v::vs)
theorem FR.mono {K K':Fz} {β b9:Bt} {gs:List GV} {vs:List Value} (h:FR K β gs vs) (hk:df K K') (hb:eg β b9):FR K' b9 gs vs:=by
 induction h with
 | nil=>exact .nil
 | cons h t ih=>exact .cons (h.mono hk hb) ih
theorem FR.nth {K:Fz} {β:Bt} {gs:List GV} {vs:List Value} (h:FR K β gs vs) (t:Nat):Rel K β (nth vs t) (dc gs t):=by
 induction h generalizing t with
 | nil=>exact .U _
 | cons h _ ih=>cases t with | zero=>exact h | succ t=>exact ih t
theorem FR.ev {K:Fz} {β:Bt} {gs:List GV} {vs:List Value} (h:FR K β gs vs) (x:Operand):Rel K β (ev vs x) (bq gs x):=by
 cases x with
 | tmp t=>exact h.nth t
 | const v=>exact .v _
 | global g=>exact .v _
 | func f=>exact .v _
theorem FR.gJ {K:Fz} {β:Bt} {gs:List GV} {vs:List Value} (h:FR K β gs vs) (t:Nat) {v:Value} {g:GV} (hv:Rel K β v g):FR K β (bX gs t g) (gJ vs t v):=by
 induction h generalizing t with
 | nil=>exact .nil
 | cons h ht ih=>cases t with | zero=>exact .cons hv ht | succ t=>exact .cons h (ih t)
theorem FR.put {K:Fz} {β:Bt} {gs:List GV} {vs:List Value} (h:FR K β gs vs) (d:Option Tmp) {v:Value} {g:GV} (hv:Rel K β v g):FR K β (bR gs d g) (put vs d v):=by
 cases d with | none=>exact h | some d=>exact h.gJ d hv
theorem FR.args {K:Fz} {β:Bt} {gs:List GV} {vs:List Value} (h:FR K β gs vs) (xs:List Operand):bC K β (xs.map (Xw.ev vs)) (xs.map (bq gs)):=by
 induction xs with
 | nil=>exact .nil
 | cons x xs ih=>exact .cons (h.ev x) ih
inductive Ob where
 | gone
 | box (E:TypeId) (cs:List GV)
 | vec (E:TypeId) (k fz:Nat) (rows:List (List GV))
 | vech (E:TypeId) (k:Nat) (rows:List (List GV)) (x:Value)
 | lost
 | blk (b:Nat) (p:Obj->Prop)
 | blob (p:(Nat->Option Obj)->Prop)
def oI (K:Fz) (w:World):Prop:=∀ b o g,K b o=some g->g.pc=true/\∃ v,jQ w.heap b o=some v/\Rel K (fun _=>.no) v g
def kp (k:Nat) (rows:List (List GV)):Prop:=∀ r∈rows,r.length=k/\∀ g∈r,g.pc=true
def mz (K:Fz) (β:Bt) (w:World) (i:Nat):Ob->Prop
 | .gone=>β i=.no
 | .box E cs=>∃ b vs,β i=.fix b/\w.heap[b]?=some (.cells vs.toArray E (0,0))/\bC K β vs cs/\∀ o,K b o=none
 | .vec E k fz rows=>∃ h xs,β i=.gr h rows.length/\jH w 0 E k h rows.length xs/\bC K β xs rows.flatten/\kp k rows /\
   (∀ b,h.ownBlock=some b->(∀ o,fz * k<=o->K b o=none)/\∀ o g,o < fz * k->rows.flatten[o]?=some g->K b o=some g)/\fz<=rows.length
 | .vech E k rows x=>∃ xs,β i=.gr x rows.length/\jH w 0 E k x rows.length xs/\bC K β xs rows.flatten/\kp k rows/\∀ b,x.ownBlock=some b->∀ o,K b o=none
 | .lost=>∀ b,(β i).has b->b < w.heap.size
 | .blk b p=>β i=.fix b/\(∃ o,w.heap[b]?=some o/\p o)/\∀ o,K b o=none
 | .blob p=>∃ h:Nat->Option Obj,β i=.set (fun b=>(h b).isSome=true)/\(∀ b o,h b=some o->w.heap[b]?=some o/\∀ j,K b j=none)/\p h
def ze:List Int:=(List.range 20).map fun i=>((10 ^ i:Nat):Int)
def zj:List Int:=(List.range 256).map fun i=>if i=9\/i=10\/i=11\/i=12\/i=13\/i=32 then 1 else 0
def AQ (m:Int):Fz:=fun b o =>
 if b=0 then (match o with | 0=>some (.v (.int .i64 m)) | _=>none)
 else if b=1 then ze[o]?.map fun z=>.v (.int .u64 z)
 else if b=2 then zj[o]?.map fun z=>.v (.int .u8 z)
 else none
def wB (w:World) (b n:Nat):Prop:=∃ cs E z,w.heap[b]?=some (.cells cs E z)/\cs.size=n
theorem wB.lt {w:World} {b n:Nat} (h:wB w b n):b < w.heap.size:=by obtain ⟨cs,E,z,h,_⟩:=h;exact vu h
structure kY (K:Fz) (β:Bt) (w:World):Prop where
 le:∃ m,df (AQ m) K
 pow:wB w 1 20
 spc:wB w 2 256
 free:∀ i b,(β i).has b->b≠1/\b≠2
theorem kY.step {S:Nat->Prop} {K K':Fz} {β b9:Bt} {w w':World} (h:kY K β w) (hx:Ext S w w') (hS:∀ b,S b->∃ i,(β i).has b) (hk:df K K') (nW:∀ i b,(b9 i).has b->(∃ j,(β j).has b)\/w.heap.size<=b):kY K' b9 w':=by
 obtain ⟨⟨m,I⟩,G,h3,h4⟩:=h
 have key:∀ {b n:Nat},wB w b n->¬ S b->wB w' b n:=fun ⟨cs,E,z,a,e⟩ hn=>⟨cs,E,z,hx.blk a hn,e⟩
 refine ⟨⟨m,I.trans hk⟩,key G (fun hs=>?_),key h3 (fun hs=>?_),fun i b hb=>?_⟩
 ·obtain ⟨i,hi⟩:=hS _ hs;exact (h4 i _ hi).1 rfl
 ·obtain ⟨i,hi⟩:=hS _ hs;exact (h4 i _ hi).2 rfl
 ·rcases nW i b hb with ⟨j,hj⟩ | hs
  ·exact h4 j b hj
  ·have:=G.lt;have:=h3.lt;exact ⟨by omega,by omega⟩
structure Bs where
 w0:World
 foot:Nat->Prop
 K0:Fz
 β0:Bt
 m:Nat
structure Inv (B:Bs) (K:Fz) (β:Bt) (Γ:List Ob) (w:World):Prop where
 ext:Ext B.foot B.w0 w
 kle:df B.K0 K
 ble:eg B.β0 β
 loc:∀ i,B.m<=i->B.β0 i=.no
 fz:oI K w
 ob:∀ i x,Γ[i]?=some x->mz K β w i x
 out:∀ i,Γ.length<=i->β i=.no
 dis:∀ i j b,(β i).has b->(β j).has b->i=j
 own:∀ i b,(β i).has b->B.foot b\/B.w0.heap.size<=b
 kn:∀ b o g,K b o=some g->B.K0 b o=some g\/B.foot b\/B.w0.heap.size<=b
 tab:kY K β w
section
variable {B:Bs} {K:Fz} {β:Bt} {Γ:List Ob} {w:World}
theorem mz.lt {i:Nat} {x:Ob} (h:mz K β w i x) {b:Nat} (hb:(β i).has b):b < w.heap.size:=by
 cases x with
 | gone=>simp only [mz] at h;rw [h] at hb;cases hb
 | box E cs =>
  obtain ⟨b',vs,I,G,_⟩:=h;rw [I] at hb;cases hb;exact vu G
 | vec E k fz rows =>
  obtain ⟨h',xs,I,G,_⟩:=h;rw [I] at hb;exact (G.lt hb).2
 | vech E k rows x =>
  obtain ⟨xs,I,G,_⟩:=h;rw [I] at hb;exact (G.lt hb).2
 | lost=>exact h b hb
 | blk b' p =>
  obtain ⟨I,⟨o,G,_⟩,_⟩:=h;rw [I] at hb;cases hb;exact (Array.getElem?_eq_some_iff.1 G).1
 | blob p =>
  obtain ⟨g,I,G,_⟩:=h;rw [I] at hb;obtain ⟨o,ho⟩:=Option.isSome_iff_exists.1 hb;exact (Array.getElem?_eq_some_iff.1 (G b o ho).1).1
theorem Inv.lt (h:Inv B K β Γ w) {i b:Nat} (hb:(β i).has b):b < w.heap.size:=by
 by_cases hi:i < Γ.length
 ·exact (h.ob i Γ[i] zgT).lt hb
 ·rw [h.out i zgb] at hb;cases hb
theorem oI.lt (h:oI K w) {b o:Nat} {g:GV} (hg:K b o=some g):b < w.heap.size:=by
 obtain ⟨_,v,hv,_⟩:=h b o g hg;exact IW hv
def blocks (β:Bt):Nat->Prop:=fun b=>∃ i,(β i).has b
def cur (K:Fz) (β:Bt) (Γ:List Ob) (w:World):Bs:=⟨w,blocks β,K,β,Γ.length⟩
theorem Inv.here (h:Inv B K β Γ w):Inv (cur K β Γ w) K β Γ w :=
 ⟨Ext.refl w,df.refl K,eg.refl β,h.out,h.fz,h.ob,h.out,h.dis,fun i b hb=>.inl ⟨i,hb⟩,fun _ _ _ h=>.inl h,h.tab⟩
theorem Inv.Ti {K':Fz} {b9:Bt} {aZ Γ0:List Ob} {w':World} (h:Inv B K β Γ w) (k:Inv (cur K β Γ0 w) K' b9 aZ w'):Inv B K' b9 aZ w' :=
 ⟨h.ext.step k.ext (fun j hj=>by obtain ⟨i,hi⟩:=hj;exact (h.own i j hi).symm),h.kle.trans k.kle,h.ble.trans k.ble,h.loc,k.fz,k.ob,k.out,k.dis,
  fun i b hb=>by
   rcases k.own i b hb with I | I
   ·obtain ⟨j,hj⟩:=I;exact h.own j b hj
   ·exact .inr (jV h.ext.size I),
  fun b o g hg=>by
   rcases k.kn b o g hg with I | ⟨j,hj⟩ | I
   ·exact h.kn b o g I
   ·exact .inr (h.own j b hj)
   ·exact .inr (.inr (jV h.ext.size I)),k.tab⟩
theorem mz.ext {S:Nat->Prop} {K':Fz} {b9:Bt} {w':World} {i:Nat} {x:Ob} (h:mz K β w i x) (hx:Ext S w w') (hs:∀ b,(β i).has b->¬ S b) (hk:df K K') (hb:eg β b9)
  (he:b9 i=β i) (hn:∀ b o,(β i).has b->K b o=none->K' b o=none):mz K' b9 w' i x:=by
 cases x with
 | gone=>simp only [mz] at h |-;rw [he,h]
 | box E cs =>
  obtain ⟨b,vs,I,G,h3,h4⟩:=h
  have eN:(β i).has b:=by rw [I];exact rfl
  exact ⟨b,vs,he.trans I,hx.blk G (hs b eN),h3.mono hk hb,fun o=>hn b o eN (h4 o)⟩
 | vec E k fz rows =>
  obtain ⟨h',xs,I,G,h3,h4,h5,h6⟩:=h
  have eN:∀ b,h'.ownBlock=some b->(β i).has b:=fun b hb=>by rw [I];exact hb
  exact ⟨h',xs,he.trans I,G.ext hx (fun b bG=>hs b (eN b bG)),h3.mono hk hb,h4,fun b bG=>⟨fun o ho=>hn b o (eN b bG) ((h5 b bG).1 o ho),fun o g ho hg=>hk _ _ _ ((h5 b bG).2 o g ho hg)⟩,h6⟩
 | vech E k rows x =>
  obtain ⟨xs,I,G,h3,h4,h5⟩:=h
  have eN:∀ b,x.ownBlock=some b->(β i).has b:=fun b hb=>by rw [I];exact hb
  exact ⟨xs,he.trans I,G.ext hx (fun b bG=>hs b (eN b bG)),h3.mono hk hb,h4,fun b bG o=>hn b o (eN b bG) (h5 b bG o)⟩
 | lost=>exact fun b bG=>AA (h b (by rw [<-he];exact bG)) hx.size
 | blk b p =>
  obtain ⟨I,⟨o,G,h3⟩,h4⟩:=h
  have eN:(β i).has b:=by rw [I];exact rfl
  exact ⟨he.trans I,⟨o,hx.blk G (hs b eN),h3⟩,fun o=>hn b o eN (h4 o)⟩
 | blob p =>
  obtain ⟨g,I,G,h3⟩:=h
  have eN:∀ b o,g b=some o->(β i).has b:=fun b o ho=>by rw [I];show (g b).isSome=true;rw [ho];rfl
  exact ⟨g,he.trans I,fun b o ho=>⟨hx.blk (G b o ho).1 (hs b (eN b o ho)),fun j=>hn b j (eN b o ho) ((G b o ho).2 j)⟩,h3⟩
theorem oI.ext {S:Nat->Prop} {w':World} (h:oI K w) (hx:Ext S w w') (hs:∀ b o g,K b o=some g->¬ S b):oI K w':=fun b o g hg=>by
 obtain ⟨I,v,hv,hr⟩:=h b o g hg;exact ⟨I,v,hx.c hv (hs b o g hg),hr⟩
theorem Inv.same {w':World} (h:Inv B K β Γ w) (hx:Ext iI w w'):Inv B K β Γ w' :=
 ⟨h.ext.step hx (fun j hj=>hj.elim),h.kle,h.ble,h.loc,h.fz.ext hx (fun _ _ _ _ h=>h),fun i x hi=>(h.ob i x hi).ext hx (fun _ _ h=>h) (df.refl K) (eg.refl β) rfl (fun _ _ _ h=>h),h.out,h.dis,h.own,h.kn,h.tab.step hx (fun _ h=>h.elim) (df.refl K) (fun i b h=>.inl ⟨i,h⟩)⟩
def fi (p:Nat->Bool) (β:Bt):Bt:=fun i=>match p i with
 | true=>β i
 | false=>.no
theorem jg {p:Nat->Bool} {β:Bt} {i:Nat} (h:p i=true):fi p β i=β i:=by simp [fi,h]
theorem rA {p:Nat->Bool} {β:Bt} {i:Nat} (h:p i=false):fi p β i=.no:=by simp [fi,h]
end
section
variable {B:Bs} {K:Fz} {β:Bt} {Γ:List Ob} {w:World}
def fZ (β:Bt) (i:Nat) (x:Bk):Bt:=fun j=>if j=i then x else β j
theorem bI {i:Nat} {x:Bk}:fZ β i x i=x:=by simp [fZ]
theorem bU {i j:Nat} {x:Bk} (h:j≠i):fZ β i x j=β j:=by simp [fZ,h]
theorem mJ {i j b:Nat} {x:Bk} (h:(fZ β i x j).has b):x.has b\/(β j).has b:=by
 by_cases hj:j=i
 ·subst hj;rw [bI] at h;exact .inl h
 ·rw [bU hj] at h;exact .inr h
theorem kq {i:Nat} {x:Bk} (h:vD (β i) x):eg β (fZ β i x):=fun j=>by
 by_cases hj:j=i
 ·subst hj;rw [bI];exact h
 ·rw [bU hj];exact vD.refl _
theorem bC.self {vs:List Value}:bC K β vs (vs.map .v):=⟨by simp,fun i v g I G=>by
 rw [bp,I] at G;cases G;exact .v _⟩
theorem Inv.add {w':World} {b:Nat} {vs:List Value} {cs:List GV} {E:TypeId} (h:Inv B K β Γ w) (hn:yn w w' b (.cells vs.toArray E)) (hr:bC K β vs cs) :
  Inv B K (fZ β Γ.length (.fix b)) (Γ++[.box E cs]) w':=by
 have cS:β Γ.length=.no:=h.out _ (aI _);have hle:eg β (fZ β Γ.length (.fix b)):=kq zgG
 have au:∀ i b',(β i).has b'->b'≠b:=fun i b' bG=>by have:=h.lt bG;have:=hn.fresh;omega
 have hK:∀ o,K b o=none:=fun o=>by
  cases hk:K b o with
  | none=>rfl
  | some g=>have:=h.fz.lt hk;have:=hn.fresh;omega
 refine ⟨h.ext.step hn.ext (fun j hj=>hj.elim),h.kle,h.ble.trans hle,h.loc,h.fz.ext hn.ext (fun _ _ _ _ h=>h),fun i x hi=>?_,fun i hi=>?_,fun i j b' hi hj=>?_,fun i b' hi=>?_,h.kn,h.tab.step hn.ext (fun _ h=>h.elim) (df.refl K) (fun i b2 hi=>by rcases mJ hi with I | I;(· cases I;exact .inr (by have:=hn.fresh;omega));exact .inl ⟨i,I⟩)⟩
 ·by_cases ue:i < Γ.length
  ·rw [gm ue] at hi
   have cj:i≠Γ.length:=by omega
   exact (h.ob i x hi).ext hn.ext (fun _ _ h=>h) (df.refl K) hle (bU cj) (fun _ _ _ h=>h)
  ·have:i=Γ.length:=by have:=(bB hi).1;simp at this;omega
   subst this;simp at hi;subst hi;exact ⟨b,vs,bI,hn.blk,hr.mono (df.refl K) hle,hK⟩
 ·simp at hi;rw [bU zgb];exact h.out i zgb
 ·by_cases I:i=Γ.length <;> by_cases G:j=Γ.length
  ·omega
  ·subst I;rw [bI] at hi;rw [bU G] at hj;cases hi;exact absurd rfl (au j _ hj)
  ·subst G;rw [bI] at hj;rw [bU I] at hi;cases hj;exact absurd rfl (au i _ hi)
  ·exact zfY
 ·by_cases I:i=Γ.length
  ·subst I;rw [bI] at hi;cases hi;exact .inr zhg
  ·rw [bU I] at hi;exact h.own i b' hi
theorem Inv.OC {w':World} {E k:Nat} {x:Value} {xs:List Value} {rows:List (List GV)} (h:Inv B K β Γ w) (hx:Ext iI w w') (ho:jH w' 0 E k x rows.length xs) (hf:∀ b,x.ownBlock=some b->w.heap.size<=b)
  (hr:bC K β xs rows.flatten) (hk:kp k rows):Inv B K (fZ β Γ.length (.gr x rows.length)) (Γ++[.vec E k 0 rows]) w':=by
 have cS:β Γ.length=.no:=h.out _ (aI _);have hle:eg β (fZ β Γ.length (.gr x rows.length)):=kq zgG
 have au:∀ i b',(β i).has b'->x.ownBlock≠some b':=fun i b' bG he=>by have:=h.lt bG;have:=hf b' he;omega
 have hK:∀ b,x.ownBlock=some b->∀ o,K b o=none:=fun b hb o=>by
  cases hk:K b o with
  | none=>rfl
  | some g=>have:=h.fz.lt hk;have:=hf b hb;omega
 refine ⟨h.ext.step hx (fun j hj=>hj.elim),h.kle,h.ble.trans hle,h.loc,h.fz.ext hx (fun _ _ _ _ h=>h),fun i y hi=>?_,fun i hi=>?_,fun i j b' hi hj=>?_,fun i b' hi=>?_,h.kn,h.tab.step hx (fun _ h=>h.elim) (df.refl K) (fun i b2 hi=>by rcases mJ hi with I | I;(· exact .inr (hf b2 I));exact .inl ⟨i,I⟩)⟩
 ·by_cases ue:i < Γ.length
  ·rw [gm ue] at hi
   have cj:i≠Γ.length:=by omega
   exact (h.ob i y hi).ext hx (fun _ _ h=>h) (df.refl K) hle (bU cj) (fun _ _ _ h=>h)
  ·have:i=Γ.length:=by have:=(bB hi).1;simp at this;omega
   subst this;simp at hi;subst hi;exact ⟨x,xs,bI,ho,hr.mono (df.refl K) hle,hk,fun b hb=>⟨fun o _=>hK b hb o,fun o g ho _=>by omega⟩,aS _⟩
 ·simp at hi;rw [bU zgb];exact h.out i zgb
 ·by_cases I:i=Γ.length <;> by_cases G:j=Γ.length
  ·omega
  ·subst I;rw [bI] at hi;rw [bU G] at hj;exact absurd hi (au j _ hj)
  ·subst G;rw [bI] at hj;rw [bU I] at hi;exact absurd hj (au i _ hi)
  ·exact zfY
 ·by_cases I:i=Γ.length
  ·subst I;rw [bI] at hi;exact .inr (jV h.ext.size (hf b' hi))
  ·rw [bU I] at hi;exact h.own i b' hi
def oc (K:Fz) (b:Nat) (cs:List GV):Fz:=fun b' o=>if b'=b then cs[o]? else K b' o
theorem yr {b o:Nat} {cs:List GV} {g:GV} (h:cs[o]?=some g):oc K b cs b o=some g:=by simp [oc,h]
theorem Inv.xE {w':World} {b:Nat} {vs:List Value} {cs:List GV} {E:TypeId} (h:Inv B K β Γ w) (hn:yn w w' b (.cells vs.toArray E)) (hr:bC K β vs cs) (hp:∀ g∈cs,g.pc=true) :
  df K (oc K b cs)/\Inv B (oc K b cs) β Γ w':=by
 have hKb:∀ o,K b o=none:=fun o=>by
  cases hk:K b o with
  | none=>rfl
  | some g=>have:=h.fz.lt hk;have:=hn.fresh;omega
 have hle:df K (oc K b cs):=fun b' o g hg=>by
  by_cases hb:b'=b
  ·subst hb;rw [hKb] at hg;cases hg
  ·simp [oc,hb,hg]
 refine ⟨hle,h.ext.step hn.ext (fun j hj=>hj.elim),h.kle.trans hle,h.ble,h.loc,fun b' o g hg=>?_,fun i x hi=>?_,h.out,h.dis,h.own,fun b' o g hg=>?_,h.tab.step hn.ext (fun _ h=>h.elim) hle (fun i b2 h=>.inl ⟨i,h⟩)⟩
 ·by_cases hb:b'=b
  ·subst hb;simp [oc] at hg;obtain ⟨v,hv,kj⟩:=hr.at hg;have Bq:=hp g (bo hg);exact ⟨Bq,v,zB hn.blk zgv,(kj.mono hle (eg.refl β)).pc Bq⟩
  ·have nw:K b' o=some g:=by simpa [oc,hb] using hg
   obtain ⟨I,v,G,h3⟩:=h.fz b' o g nw;exact ⟨I,v,hn.ext.c G (fun h=>h),h3.mono hle (eg.refl _)⟩
 ·refine (h.ob i x hi).ext hn.ext (fun _ _ h=>h) hle (eg.refl β) rfl (fun b' o hb hk=>?_)
  have:b'≠b:=by have:=h.lt hb;have:=hn.fresh;omega
  simp [oc,this,hk]
 ·by_cases hb:b'=b
  ·exact .inr (.inr zhg)
  ·exact h.kn b' o g (by simpa [oc,hb] using hg)
theorem Inv.store {w':World} {i b:Nat} {E:TypeId} {cs Q0:List GV} {vs':List Value} (h:Inv B K β Γ w) (hi:Γ[i]?=some (.box E cs)) (hb:β i=.fix b) (hs:xw w w' b vs'.toArray E)
  (hr:bC K β vs' Q0):Inv B K β (Γ.set i (.box E Q0)) w':=by
 obtain ⟨b0,vs,I,G,h3,h4⟩:=h.ob i _ hi;rw [hb] at I;cases I
 have eN:(β i).has b:=by rw [hb];exact rfl
 refine ⟨h.ext.step hs.ext (fun j hj=>?_),h.kle,h.ble,h.loc,h.fz.ext hs.ext (fun b' o g hg he=>?_),fun j x hj=>?_,fun j hj=>h.out j zgp,h.dis,h.own,h.kn,h.tab.step hs.ext (fun j hj=>⟨i,by subst hj;exact eN⟩) (df.refl K) (fun i b2 h=>.inl ⟨i,h⟩)⟩
 ·subst hj;exact (h.own i _ eN).symm
 ·subst he;rw [h4] at hg;cases hg
 ·rw [fb] at hj;split at hj
  ·rename_i fy;split at hj
   ·cases hj;subst fy
    exact ⟨b,vs',hb,hs.blk,hr,h4⟩
   ·cases hj
  ·rename_i fy;refine (h.ob j x hj).ext hs.ext (fun b' bG he=>?_) (df.refl K) (eg.refl β) rfl (fun _ _ _ h=>h);subst he;exact fy (h.dis i j _ eN bG)
def Eh (K:Fz) (x:Value) (n:Nat) (fl:List GV):Fz:=fun b o=>if x.ownBlock=some b/\o < n then fl[o]? else K b o
theorem Cn {x:Value} {n b o:Nat} {fl:List GV} (I:x.ownBlock=some b) (G:o < n):Eh K x n fl b o=fl[o]?:=by unfold Eh;rw [ah ⟨I,G⟩]
theorem zL {x:Value} {n b o:Nat} {fl:List GV} (h:¬ (x.ownBlock=some b/\o < n)):Eh K x n fl b o=K b o:=by unfold Eh;rw [ab h]
theorem Ei {x:Value} {n b o:Nat} {fl:List GV} {g:GV} (h:Eh K x n fl b o=some g):(x.ownBlock=some b/\o < n/\fl[o]?=some g)\/(¬ (x.ownBlock=some b/\o < n)/\K b o=some g):=by
 by_cases hc:x.ownBlock=some b/\o < n
 ·rw [Cn hc.1 hc.2] at h;exact .inl ⟨hc.1,hc.2,h⟩
 ·rw [zL hc] at h;exact .inr ⟨hc,h⟩
theorem Inv.grow {w':World} {i:Nat} {E k fz:Nat} {rows news:List (List GV)} {h0 x:Value} {xs ns:List Value} (h:Inv B K β Γ w) (hi:Γ[i]?=some (.vec E k fz rows)) (hb:β i=.gr h0 rows.length)
  (sX:jH w 0 E k h0 rows.length xs/\bC K β xs rows.flatten) (ho:jH w' 0 E k x (rows.length+news.length) (xs++ns)) (hx:Ext (fun b=>h0.ownBlock=some b) w w') (hf:∀ b,x.ownBlock=some b->h0.ownBlock=some b\/w.heap.size<=b)
  (hr:bC K β ns news.flatten) (hk:kp k news) (cj:news≠[]) (tI:∀ b,h0.ownBlock=some b->∀ o v,o < fz * k->jQ w.heap b o=some v->jQ w'.heap b o=some v) :
  ∃ K',df K K'/\eg β (fZ β i (.gr x (rows++news).length))/\Inv B K' (fZ β i (.gr x (rows++news).length)) (Γ.set i (.vec E k fz (rows++news))) w':=by
 obtain ⟨vi,xs',I,G,h3,h4,h5,h6⟩:=h.ob i _ hi;rw [hb] at I;cases I;clear G h3
 have hlen:news.length≠0:=fun h=>cj (ig h)
 have hle:eg β (fZ β i (.gr x (rows++news).length)):=kq (by rw [hb];exact ⟨x,_,rfl,by simp,fun he=>by rw [aL] at he;omega⟩)
 have Bf:∀ b,h0.ownBlock=some b->(β i).has b:=fun b bG=>by rw [hb];exact bG
 have O7:rows.flatten.length=rows.length * k:=by rw [<-sX.2.1];exact sX.1.1
 have aec:fz * k<=rows.flatten.length:=by rw [O7];exact ua k h6
 have Hi:df K (Eh K x (fz * k) rows.flatten):=fun b o g hg=>by
  by_cases hc:x.ownBlock=some b/\o < fz * k
  ·rw [Cn hc.1 hc.2]
   rcases hf b hc.1 with h7 | h7
   ·have Xe:o < rows.flatten.length:=by omega
    have:=(h5 b h7).2 o rows.flatten[o] hc.2 (by simp [Xe]);rw [this] at hg;cases hg;simp [Xe]
   ·have:=h.fz.lt hg;omega
  ·rw [zL hc];exact hg
 refine ⟨Eh K x (fz * k) rows.flatten,Hi,hle,h.ext.step hx (fun j hj=>(h.own i j (Bf j hj)).symm),h.kle.trans Hi,h.ble.trans hle,h.loc,fun b o g hg=>?_,fun j y hj=>?_,fun j hj=>?_,fun j j' b hj oy=>?_,fun j b hj=>?_,fun b o g hg=>?_,h.tab.step hx (fun j hj=>⟨i,Bf j hj⟩) Hi (fun j b2 hi=>by rcases mJ hi with I | I;(· exact (hf b2 I).imp (fun G=>⟨i,Bf b2 G⟩) id);exact .inl ⟨j,I⟩)⟩
 ·rcases Ei hg with ⟨bG,C4,hg⟩ | ⟨hc,hg⟩
  ·have Bq:g.pc=true:=by
    exact zeC
   obtain ⟨v,hv,kj⟩:=sX.2.at hg;obtain ⟨b2,c,w5,_,_,mu⟩:=ho.cells.2 (by intro h0;have:xs=[]:=(List.append_eq_nil_iff.1 h0).1;rw [this] at hv;simp at hv)
   have eM:b2=b:=by rw [w5] at bG;cases bG;rfl
   subst eM;have au:o < xs.length:=(bB hv).1;refine ⟨Bq,v,?_,(kj.mono Hi hle).pc Bq⟩;rw [<-gU];exact mu o v (by rw [gm au];exact hv)
  ·obtain ⟨hp,v,hv,kj⟩:=h.fz b o g hg;refine ⟨hp,v,?_,kj.mono Hi (eg.refl _)⟩
   by_cases h7:h0.ownBlock=some b
   ·by_cases h8:o < fz * k
    ·exact tI b h7 o v h8 hv
    ·rw [(h5 b h7).1 o zgb] at hg;cases hg
   ·exact hx.c hv h7
 ·rw [fb] at hj;split at hj
  ·rename_i fy;split at hj
   ·cases hj;subst fy
    refine ⟨x,xs++ns,bI,by simpa using ho,?_,?_,fun b bG=>⟨fun o C4=>?_,fun o g C4 hg=>?_⟩,by simp;omega⟩
    ·rw [List.flatten_append];exact (sX.2.mono Hi hle).app (hr.mono Hi hle)
    ·intro r Sb
     rcases mo Sb with h7 | h7
     ·exact h4 r h7
     ·exact hk r h7
    ·rw [zL zgb]
     rcases hf b bG with h7 | h7
     ·exact (h5 b h7).1 o C4
     ·cases fm:K b o with
      | none=>rfl
      | some g=>have:=h.fz.lt fm;omega
    ·rw [Cn bG C4];rw [List.flatten_append,gm zgb] at hg;exact hg
   ·cases hj
  ·rename_i fy;refine (h.ob j y hj).ext hx (fun b bG he=>?_) Hi hle (bU (fun he=>fy he.symm)) (fun b o bG fm=>?_)
   ·exact fy (h.dis i j b (Bf b he) bG)
   ·rw [zL];exact fm;rintro ⟨h7,_⟩
    rcases hf b h7 with h8 | h8
    ·exact fy (h.dis i j b (Bf b h8) bG)
    ·have:=h.lt bG;omega
 ·have oy:Γ.length<=j:=by simpa using hj
  have:i < Γ.length:=(bB hi).1;rw [bU zgb];exact h.out j oy
 ·have key:∀ j b,j≠i->(β j).has b->x.ownBlock≠some b:=fun j b DD bG he=>by
   rcases hf b he with h7 | h7
   ·exact DD (h.dis j i b bG (Bf b h7))
   ·have:=h.lt bG;omega
  by_cases I:j=i <;> by_cases G:j'=i
  ·omega
  ·subst I;rw [bI] at hj;rw [bU G] at oy;exact absurd hj (key j' b G oy)
  ·subst G;rw [bI] at oy;rw [bU I] at hj;exact absurd oy (key j b I hj)
  ·rw [bU I] at hj;rw [bU G] at oy;exact h.dis j j' b hj oy
 ·by_cases I:j=i
  ·subst I;rw [bI] at hj
   rcases hf b hj with h7 | h7
   ·exact h.own j b (Bf b h7)
   ·exact .inr (jV h.ext.size h7)
  ·rw [bU I] at hj;exact h.own j b hj
 ·rcases Ei hg with ⟨bG,_,_⟩ | ⟨_,hg⟩
  ·rcases hf b bG with h7 | h7
   ·exact .inr (h.own i b (Bf b h7))
   ·exact .inr (.inr (jV h.ext.size h7))
  ·exact h.kn b o g hg
theorem Inv.jY {i E k fz:Nat} {rows:List (List GV)} (h:Inv B K β Γ w) (hi:Γ[i]?=some (.vec E k fz rows)) :
  ∃ K',df K K'/\(∀ x b,β i=.gr x rows.length->x.ownBlock=some b->∀ (o:Nat) g,rows.flatten[o]?=some g->K' b o=some g)/\Inv B K' β (Γ.set i (.vec E k rows.length rows)) w:=by
 obtain ⟨x,xs,I,G,h3,h4,h5,h6⟩:=h.ob i _ hi
 have O7:rows.flatten.length=rows.length * k:=by rw [<-h3.1];exact G.1
 have eN:∀ b,x.ownBlock=some b->(β i).has b:=fun b hb=>by rw [I];exact hb
 have hle:df K (Eh K x (rows.length * k) rows.flatten):=fun b o g hg=>by
  by_cases hc:x.ownBlock=some b/\o < rows.length * k
  ·rw [Cn hc.1 hc.2]
   have au:o < rows.flatten.length:=by omega
   by_cases ho:o < fz * k
   ·have:=(h5 b hc.1).2 o rows.flatten[o] ho (by simp [au]);rw [this] at hg;cases hg;simp [au]
   ·rw [(h5 b hc.1).1 o zgb] at hg;cases hg
  ·rw [zL hc];exact hg
 refine ⟨Eh K x (rows.length * k) rows.flatten,hle,fun x' b Nk hb o g hg=>?_,h.ext,h.kle.trans hle,h.ble,h.loc,fun b o g hg=>?_,fun j y hj=>?_,fun j hj=>h.out j zgp,h.dis,h.own,fun b o g hg=>?_,h.tab.step (S:=iI) (Ext.refl w) (fun _ h=>h.elim) hle (fun i b2 h=>.inl ⟨i,h⟩)⟩
 ·rw [I] at Nk;cases Nk;rw [Cn hb (by rw [<-O7];exact (bB hg).1)];exact hg
 ·rcases Ei hg with ⟨bG,C4,hg⟩ | ⟨hc,hg⟩
  ·have Bq:g.pc=true:=by
    exact zeC
   obtain ⟨v,hv,kj⟩:=h3.at hg;obtain ⟨b2,c,w5,_,_,mu⟩:=G.cells.2 (by intro h0;rw [h0] at hv;simp at hv)
   have eM:b2=b:=by rw [w5] at bG;cases bG;rfl
   subst eM;exact ⟨Bq,v,by rw [<-gU];exact mu o v hv,(kj.mono hle (eg.refl β)).pc Bq⟩
  ·obtain ⟨h7,v,h8,h9⟩:=h.fz b o g hg;exact ⟨h7,v,h8,h9.mono hle (eg.refl _)⟩
 ·rw [fb] at hj;split at hj
  ·rename_i fy;split at hj
   ·cases hj;subst fy
    refine ⟨x,xs,I,G,h3.mono hle (eg.refl β),h4,fun b hb=>⟨fun o ho=>?_,fun o g ho hg=>?_⟩,aI _⟩
    ·rw [zL zgb];exact (h5 b hb).1 o (jV (ua k h6) ho)
    ·rw [Cn hb ho];exact hg
   ·cases hj
  ·rename_i fy;refine (h.ob j y hj).ext (Ext.refl w) (fun _ _ h=>h) hle (eg.refl β) rfl (fun b o bG fm=>?_) (S:=iI);rw [zL];exact fm;rintro ⟨h7,_⟩;exact fy (h.dis i j b (eN b h7) bG)
 ·rcases Ei hg with ⟨bG,_,_⟩ | ⟨_,hg⟩
  ·exact .inr (h.own i b (eN b bG))
  ·exact h.kn b o g hg
end
mutual
def fc (f:Nat->Nat):GV->GV
 | .v x=>.v x
 | .U=>.U
 | .agg cs=>.agg (pb f cs)
 | .tup cs=>.tup (pb f cs)
 | .sl k rows=>.sl k rows
 | .box cs o=>.box cs o
 | .loc i o=>.loc (f i) o
 | .vec i n=>.vec (f i) n
 | .vp i n k idx off=>.vp (f i) n k idx off
 | .arr i o n=>.arr (f i) o n
 | .fn g a c=>.fn g (pb f a) (pb f c)
def pb (f:Nat->Nat):List GV->List GV
 | []=>[]
 | g::gs=>fc f g::pb f gs
end
theorem nc (f:Nat->Nat) (gs:List GV):pb f gs=gs.map (fc f):=by
 induction gs with
 | nil=>rfl
 | cons g gs ih=>simp [pb,ih]
theorem Rel.Fl {K:Fz} {β:Bt} {f:Nat->Nat} {x:Value} {g:GV} (h:Rel K (fun j=>β (f j)) x g):Rel K β x (fc f g):=by
 induction h with
 | v x=>exact .v x
 | U x=>exact .U x
 | agg vs cs hl h ih =>
  rw [fc,nc]
  refine .agg vs _ zge fun i v g I G=>?_
  rw [bp] at G
  cases hc:cs[i]? with
  | none=>rw [hc] at G;cases G
  | some c=>rw [hc] at G;cases G;exact ih i v c I hc
 | tup vs cs hl h ih =>
  rw [fc,nc]
  refine .tup vs _ zge fun i v g I G=>?_
  rw [bp] at G
  cases hc:cs[i]? with
  | none=>rw [hc] at G;cases G
  | some c=>rw [hc] at G;cases G;exact ih i v c I hc
 | sl0 a c k=>exact .sl0 a c k
 | sl b o c k rows h hc=>exact .sl b o c k rows h hc
 | box b o' o cs h=>exact .box b o' o cs h
 | loc i o b h=>exact .loc _ o b h
 | vec i n a c h=>exact .vec _ n a c h
 | vp i n k idx off x h=>exact .vp _ n k idx off x h
 | arr i o n b c h=>exact .arr _ o n b c h
 | fn g xs ys first cap hl lH h h' ih yV =>
  rw [fc,nc,nc];refine .fn g xs ys _ _ zge (by simpa using lH) (fun i v g I G=>?_) (fun i v g I G=>?_)
  ·rw [bp] at G
   cases hc:first[i]? with
   | none=>rw [hc] at G;cases G
   | some c=>rw [hc] at G;cases G;exact ih i v c I hc
  ·rw [bp] at G
   cases hc:cap[i]? with
   | none=>rw [hc] at G;cases G
   | some c=>rw [hc] at G;cases G;exact yV i v c I hc
theorem Rel.EZ {K:Fz} {β:Bt} {f:Nat->Nat} {x:Value} {g:GV} (h:Rel K β x (fc f g)):Rel K (fun j=>β (f j)) x g:=by
 generalize he:fc f g=g' at h
 induction h generalizing g with
 | v x =>
  cases g <;> simp only [fc] at he <;> first | (cases he;done) | skip
  cases he;exact .v x
 | U x =>
  cases g <;> simp only [fc] at he <;> first | (cases he;done) | skip
  exact .U x
 | agg vs cs hl h ih =>
  cases g <;> simp only [fc] at he <;> first | (cases he;done) | skip
  rename_i ds;rw [nc] at he;cases he
  exact .agg vs ds zge fun i v g I G=>ih i v (fc f g) I zg1 rfl
 | tup vs cs hl h ih =>
  cases g <;> simp only [fc] at he <;> first | (cases he;done) | skip
  rename_i ds;rw [nc] at he;cases he
  exact .tup vs ds zge fun i v g I G=>ih i v (fc f g) I zg1 rfl
 | sl0 a c k =>
  cases g <;> simp only [fc] at he <;> first | (cases he;done) | skip
  cases he;exact .sl0 a c _
 | sl b o c k rows h hc =>
  cases g <;> simp only [fc] at he <;> first | (cases he;done) | skip
  cases he;exact .sl b o c k rows h hc
 | box b o' o cs h =>
  cases g <;> simp only [fc] at he <;> first | (cases he;done) | skip
  cases he;exact .box b o' o cs h
 | loc i o b h =>
  cases g <;> simp only [fc] at he <;> first | (cases he;done) | skip
  cases he;exact .loc _ o b h
 | vec i n a c h =>
  cases g <;> simp only [fc] at he <;> first | (cases he;done) | skip
  cases he;exact .vec _ n a c h
 | vp i n k idx off x h =>
  cases g <;> simp only [fc] at he <;> first | (cases he;done) | skip
  cases he;exact .vp _ n k idx off x h
 | arr i o n b c h =>
  cases g <;> simp only [fc] at he <;> first | (cases he;done) | skip
  cases he;exact .arr _ o n b c h
 | fn g' xs ys first cap hl lH h h' ih yV =>
  cases g <;> simp only [fc] at he <;> first | (cases he;done) | skip
  rename_i f' ds es;rw [nc,nc] at he;cases he;exact .fn _ xs ys ds es zge (by simpa using lH) (fun i v g I G=>ih i v (fc f g) I zg1 rfl)
   (fun i v g I G=>yV i v (fc f g) I zg1 rfl)
mutual
def GV.ok (p:Nat->Bool):GV->Bool
 | .loc i _=>p i
 | .vec i _=>p i
 | .vp i _ _ _ _=>p i
 | .arr i _ _=>p i
 | .agg cs=>HF p cs
 | .tup cs=>HF p cs
 | .fn _ a c=>HF p a&&HF p c
 | .v _=>true
 | .U=>true
 | .sl _ _=>true
 | .box _ _=>true
def HF (p:Nat->Bool):List GV->Bool
 | []=>true
 | g::gs=>GV.ok p g&&HF p gs
end
def below (n:Nat):Nat->Bool:=fun i=>Nat.blt i n
def other (n:Nat):Nat->Bool:=fun i=>!Nat.beq i n
abbrev GV.lt (n:Nat) (g:GV):Bool:=g.ok (below n)
theorem zb {p:Nat->Bool} {gs:List GV} (h:HF p gs=true) {g:GV} (hg:g∈gs):g.ok p=true:=by
 induction gs with
 | nil=>cases hg
 | cons x gs ih =>
  simp only [HF,aK] at h
  rcases fh hg with rfl | hg
  ·exact h.1
  ·exact ih h.2 hg
theorem Rel.res {K:Fz} {β:Bt} {p:Nat->Bool} {x:Value} {g:GV} (h:Rel K β x g) (hl:g.ok p=true):Rel K (fi p β) x g:=by
 induction h with
 | v x=>exact .v x
 | U x=>exact .U x
 | agg vs cs nS h ih=>simp only [GV.ok] at hl;exact .agg vs cs nS fun i v g I G=>ih i v g I G (zb hl (bo G))
 | tup vs cs nS h ih=>simp only [GV.ok] at hl;exact .tup vs cs nS fun i v g I G=>ih i v g I G (zb hl (bo G))
 | sl0 a c k=>exact .sl0 a c k
 | sl b o c k rows h hc=>exact .sl b o c k rows h hc
 | box b o' o cs h=>exact .box b o' o cs h
 | loc i o b h=>simp only [GV.ok] at hl;exact .loc _ o b (by rw [jg hl,h])
 | vec i m a c h=>simp only [GV.ok] at hl;exact .vec _ m a c (by rw [jg hl];exact h)
 | vp i m k idx off x h=>simp only [GV.ok] at hl;exact .vp _ m k idx off x (by rw [jg hl];exact h)
 | arr i o m b c h=>simp only [GV.ok] at hl;exact .arr _ o m b c (by rw [jg hl,h])
 | fn g' xs ys first cap nS lH h h' ih yV =>
  simp only [GV.ok,aK] at hl
  exact .fn _ xs ys first cap nS lH (fun i v g I G=>ih i v g I G (zb hl.1 (bo G))) (fun i v g I G=>yV i v g I G (zb hl.2 (bo G)))
def Ob.ok (p:Nat->Bool):Ob->Bool
 | .box _ cs=>HF p cs
 | _=>true
def Ob.fc (f:Nat->Nat):Ob->Ob
 | .box E cs=>.box E (pb f cs)
 | x=>x
def uu (p:Nat->Bool):List Ob->Bool
 | []=>true
 | x::r=>Ob.ok p x&&uu p r
abbrev vQ (n:Nat) (Γ:List Ob):Bool:=uu (below n) Γ
theorem NP {p:Nat->Bool} {gs:List Ob} (h:uu p gs=true) {g:Ob} (hg:g∈gs):g.ok p=true:=by
 induction gs with
 | nil=>cases hg
 | cons x gs ih =>
  simp only [uu,aK] at h
  rcases fh hg with rfl | hg
  ·exact h.1
  ·exact ih h.2 hg
def PY (p:Nat->Bool):List GV->List GV
 | []=>[]
 | g::gs=>(match GV.ok p g with | true=>g | false=>.U)::PY p gs
abbrev yc (n:Nat) (fr:List GV):List GV:=PY (below n) fr
theorem FR.res {K:Fz} {β:Bt} {p:Nat->Bool} {fr:List GV} {l:List Value} (h:FR K β fr l):FR K (fi p β) (PY p fr) l:=by
 induction h with
 | nil=>exact .nil
 | cons h t ih =>
  rw [PY];split
  ·rename_i hl;exact .cons (h.res hl) ih
  ·exact .cons (.U _) ih
theorem mz.res {K:Fz} {β:Bt} {w:World} {p:Nat->Bool} {i:Nat} {x:Ob} (h:mz K β w i x) (hi:p i=true) (hx:x.ok p=true):mz K (fi p β) w i x:=by
 cases x with
 | gone=>simp only [mz] at h |-;rw [jg hi,h]
 | box E cs =>
  obtain ⟨b,vs,I,G,h3,h4⟩:=h;exact ⟨b,vs,by rw [jg hi,I],G,⟨h3.1,fun i v g h5 h6=>(h3.2 i v g h5 h6).res (zb hx (bo h6))⟩,h4⟩
 | vec E k fz rows =>
  obtain ⟨h0,xs,I,G,h3,h4,h5⟩:=h;refine ⟨h0,xs,by rw [jg hi,I],G,⟨h3.1,fun i v g h6 h7=>(h3.2 i v g h6 h7).pc ?_⟩,h4,h5⟩;exact zaG
 | vech E k rows x =>
  obtain ⟨xs,I,G,h3,h4,h5⟩:=h;refine ⟨xs,by rw [jg hi,I],G,⟨h3.1,fun i v g h6 h7=>(h3.2 i v g h6 h7).pc ?_⟩,h4,h5⟩;exact zaG
 | lost=>exact fun b hb=>h b (by rw [jg hi] at hb;exact hb)
 | blk b q=>exact ⟨by rw [jg hi,h.1],h.2⟩
 | blob q =>
  obtain ⟨g,I,G⟩:=h;exact ⟨g,by rw [jg hi,I],G⟩
section
variable {B:Bs} {K:Fz} {β:Bt} {Γ:List Ob} {w:World}
theorem yv {n i:Nat} (h:i < n):below n i=true:=by simpa [below] using h
theorem ux {n i:Nat} (h:n<=i):below n i=false:=by
 cases hb:below n i with
 | false=>rfl
 | true=>simp [below] at hb;omega
theorem Inv.cut {n:Nat} (h:Inv B K β Γ w) (hm:B.m<=n) (hl:vQ n (Γ.take n)=true):Inv B K (fi (below n) β) (Γ.take n) w:=by
 have fu:∀ i b,(fi (below n) β i).has b->(β i).has b:=fun i b hi=>by
  simp only [fi] at hi;split at hi
  ·exact hi
  ·cases hi
 refine ⟨h.ext,h.kle,fun i=>?_,h.loc,h.fz,fun i x hi=>?_,fun i hi=>?_,fun i j b hi hj=>h.dis i j b (fu i b hi) (fu j b hj),fun i b hi=>h.own i b (fu i b hi),h.kn,h.tab.step (S:=iI) (Ext.refl w) (fun _ h=>h.elim) (df.refl K) (fun i b2 G=>.inl ⟨i,fu i b2 G⟩)⟩
 ·by_cases lR:i < n
  ·rw [jg (yv lR)];exact h.ble i
  ·rw [h.loc i zgb];trivial
 ·have au:=NP hl (bo hi);rw [getElem?_take] at hi;split at hi
  ·rename_i lR;exact (h.ob i x hi).res (yv lR) au
  ·cases hi
 ·by_cases lR:i < n
  ·rw [jg (yv lR)];exact h.out i (by simp at hi;omega)
  ·exact rA (ux zgb)
theorem NQ {i:Nat}:other i i=false:=by simp [other]
theorem zc {i j:Nat} (h:j≠i):other i j=true:=by
 cases hb:Nat.beq j i with
 | false=>simp [other,hb]
 | true=>exact absurd (Nat.eq_of_beq_eq_true hb) h
theorem Inv.freeze {i:Nat} {E:TypeId} {cs:List GV} (h:Inv B K β Γ w) (hi:Γ[i]?=some (.box E cs)) (hp:∀ g∈cs,g.pc=true) (cS:uu (other i) (Γ.set i .gone)=true) (hm:B.m<=i) :
  ∃ K',df K K'/\(∀ b,β i=.fix b->∀ (j:Nat) g,cs[j]?=some g->K' b j=some g)/\Inv B K' (fi (other i) β) (Γ.set i .gone) w:=by
 obtain ⟨b,vs,I,G,h3,h4⟩:=h.ob i _ hi
 have eN:(β i).has b:=by rw [I];exact rfl
 have hle:df K (oc K b cs):=fun b' o g hg=>by
  by_cases hb:b'=b
  ·subst hb;rw [h4] at hg;cases hg
  ·simp [oc,hb,hg]
 have fu:∀ j b',(fi (other i) β j).has b'->j≠i/\(β j).has b':=fun j b' hj=>by
  by_cases lS:j=i
  ·subst lS;rw [rA NQ] at hj;cases hj
  ·rw [jg (zc lS)] at hj;exact ⟨lS,hj⟩
 refine ⟨oc K b cs,hle,fun b' bG j g hg=>?_,h.ext,h.kle.trans hle,fun j=>?_,h.loc,fun b' o g hg=>?_,fun j x hj=>?_,fun j hj=>?_,fun j j' b' hj oy=>?_,fun j b' hj=>?_,fun b' o g hg=>?_,h.tab.step (S:=iI) (Ext.refl w) (fun _ h=>h.elim) hle (fun i b2 G=>.inl ⟨i,(fu i b2 G).2⟩)⟩
 ·rw [I] at bG;cases bG;exact yr hg
 ·by_cases lS:j=i
  ·subst lS;rw [h.loc j hm];trivial
  ·rw [jg (zc lS)];exact h.ble j
 ·by_cases hb:b'=b
  ·subst hb;simp [oc] at hg;obtain ⟨v,hv,kj⟩:=h3.at hg;have Bq:=hp g (bo hg);exact ⟨Bq,v,zB G zgv,(kj.mono hle (eg.refl β)).pc Bq⟩
  ·have nw:K b' o=some g:=by simpa [oc,hb] using hg
   obtain ⟨h5,v,h6,h7⟩:=h.fz b' o g nw;exact ⟨h5,v,h6,h7.mono hle (eg.refl _)⟩
 ·have fA:=NP cS (bo hj);rw [fb] at hj;split at hj
  ·rename_i fy;split at hj
   ·cases hj;subst fy;exact rA NQ
   ·cases hj
  ·rename_i fy;refine mz.res ?_ (zc (fun he=>fy he.symm)) fA;refine (h.ob j x hj).ext (Ext.refl w) (fun _ _ h=>h) hle (eg.refl β) rfl (fun b' o bG hk=>?_) (S:=iI)
   have:b'≠b:=fun he=>by subst he;exact fy (h.dis i j _ eN bG)
   simp [oc,this,hk]
 ·have:i < Γ.length:=(bB hi).1
  have oy:Γ.length<=j:=by simpa using hj
  rw [jg (zc zgb)];exact h.out j oy
 ·exact h.dis j j' b' (fu j b' hj).2 (fu j' b' oy).2
 ·exact h.own j b' (fu j b' hj).2
 ·by_cases hb:b'=b
  ·subst hb;exact .inr (h.own i _ eN)
  ·exact h.kn b' o g (by simpa [oc,hb] using hg)
end
abbrev eC:=Exit->List GV->List Ob->Prop
def gl (B:Bs) (Q:eC):oJ:=fun e l w=>∃ K β fr Γ,Inv B K β Γ w/\FR K β fr l/\Q e fr Γ
def GW (P:Program) (m:Nat) (c:Code) (Q:eC) (fr:List GV) (Γ:List Ob):Prop :=
 ∀ B K β w l,B.m=m->Inv B K β Γ w->FR K β fr l->W P c (gl B Q) l w
def GL (P:Program) (m:Nat) (ops:Array Oper) (Q:eC) (rest:List Oper) (fr:List GV) (Γ:List Ob):Prop :=
 ∀ B K β w l,B.m=m->Inv B K β Γ w->FR K β fr l->WL P ops (gl B Q) rest l w
def aU (next:List GV->List Ob->Prop) (Q:eC):eC
 | .normal,fr,Γ=>next fr Γ
 | e,fr,Γ=>Q e fr Γ
def aW (id:Nat) (Q:eC):eC
 | .exit EJ,fr,Γ=>if EJ=id then Q .normal fr Γ else Q (.exit EJ) fr Γ
 | e,fr,Γ=>Q e fr Γ
def Wk (m:Nat) (fr:List GV) (Γ:List Ob) (cV:List GV) (aZ:List Ob):Prop :=
 ∀ B K β w l,B.m=m->Inv B K β Γ w->FR K β fr l->∃ K' b9,Inv B K' b9 aZ w/\FR K' b9 cV l
section
variable {P:Program} {m:Nat} {Q:eC} {fr:List GV} {Γ:List Ob} {ops:Array Oper} {rest:List Oper}
theorem Wk.trans {cV Rz:List GV} {aZ Oj:List Ob} (h:Wk m fr Γ cV aZ) (k:Wk m cV aZ Rz Oj):Wk m fr Γ Rz Oj:=fun B K β w l hm hI hF=>by
 exact zb4
theorem GW.wk {c:Code} {cV:List GV} {aZ:List Ob} (h:Wk m fr Γ cV aZ) (k:GW P m c Q cV aZ):GW P m c Q fr Γ:=fun B K β w l hm hI hF=>by
 exact zb4
theorem GL.wk {cV:List GV} {aZ:List Ob} (h:Wk m fr Γ cV aZ) (k:GL P m ops Q rest cV aZ):GL P m ops Q rest fr Γ:=fun B K β w l hm hI hF=>by
 exact zb4
theorem Wk.cut {n:Nat} (hm:m<=n) (hl:vQ n (Γ.take n)=true):Wk m fr Γ (yc n fr) (Γ.take n):=fun B K β w l hB hI hF =>
 ⟨K,fi (below n) β,hI.cut zgb hl,hF.res⟩
inductive wC:List GV->List GV->Prop
 | nil:wC [] []
 | U {f:GV} {fs gs:List GV} (h:wC fs gs):wC (f::fs) (.U::gs)
 | eq {f g:GV} {fs gs:List GV} (he:f=g) (h:wC fs gs):wC (f::fs) (g::gs)
theorem FR.adY {K:Fz} {β:Bt} {l:List Value} {fr cV:List GV} (h:wC fr cV) (k:FR K β fr l):FR K β cV l:=by
 induction h generalizing l with
 | nil=>exact k
 | U h ih=>cases k with | cons k1 k2=>exact .cons (.U _) (ih k2)
 | eq he h ih=>subst he;cases k with | cons k1 k2=>exact .cons k1 (ih k2)
theorem Wk.aH {cV:List GV} (h:wC fr cV):Wk m fr Γ cV Γ:=fun B K β w l _ hI hF=>⟨K,β,hI,hF.adY h⟩
theorem GW.seq {x y:Code} (h:GW P m x (aU (GW P m y Q) Q) fr Γ):GW P m (.seq x y) Q fr Γ:=fun B K β w l hm hI hF=>by
 refine W.seq (W.mono (h B K β w l hm hI hF) ?_);rintro e l w ⟨K,β,fr,Γ,hI,hF,hq⟩
 cases e with
 | normal=>exact hq B K β w l hm hI hF
 | _=>exact zdm
theorem GW.skip (h:Q .normal fr Γ):GW P m .skip Q fr Γ:=fun B K β w l hm hI hF=>W.skip ⟨K,β,fr,Γ,hI,hF,h⟩
theorem GW.exit {n:Nat} (h:Q (.exit n) fr Γ):GW P m (.exit n) Q fr Γ:=fun B K β w l hm hI hF=>W.exit ⟨K,β,fr,Γ,hI,hF,h⟩
theorem GW.ret (h:Q .ret fr Γ):GW P m .ret Q fr Γ:=fun B K β w l hm hI hF=>W.ret ⟨K,β,fr,Γ,hI,hF,h⟩
theorem GW.block {id:Nat} {c:Code} (h:GW P m c (aW id Q) fr Γ):GW P m (.block id c) Q fr Γ:=fun B K β w l hm hI hF=>by
 refine W.block (W.mono (h B K β w l hm hI hF) ?_);rintro e l w ⟨K,β,fr,Γ,hI,hF,hq⟩
 cases e with
 | exit EJ =>
  simp only [aW] at hq;simp only [inb];split <;> rename_i hh
  ·rw [ah hh] at hq;exact zdm
  ·rw [ab hh] at hq;exact zdm
 | _=>exact zdm
theorem Rel.eJ {K:Fz} {β:Bt} {x a:Value} (h:Rel K β x (.v a)):x=a:=by cases h;rfl
theorem FR.lq {K:Fz} {β:Bt} {l:List Value} {x:Operand} {a:Value} (h:FR K β fr l) (hx:bq fr x=.v a):Xw.ev l x=a:=Rel.eJ (by rw [<-hx];exact h.ev x)
theorem GW.cond {c:Operand} {x y:Code} {t:Bool} (hc:bq fr c=.v (.bool t)) (ht:t=true->GW P m x Q fr Γ) (hf:t=false->GW P m y Q fr Γ):GW P m (.cond c x y) Q fr Γ:=fun B K β w l hm hI hF =>
 W.cond (hF.lq hc) (fun h=>ht h B K β w l hm hI hF) (fun h=>hf h B K β w l hm hI hF)
theorem Qo {c:Operand} {x y:Code} {t:Bool} (hc:bq fr c=.v (.bool t)) (ht:t=true) (h:GW P m x Q fr Γ):GW P m (.cond c x y) Q fr Γ:=GW.cond hc (fun _=>h) (fun G=>by rw [ht] at G;cases G)
theorem Qn {c:Operand} {x y:Code} {t:Bool} (hc:bq fr c=.v (.bool t)) (ht:t=false) (h:GW P m y Q fr Γ):GW P m (.cond c x y) Q fr Γ:=GW.cond hc (fun G=>by rw [ht] at G;cases G) (fun _=>h)
theorem GW.mono {c:Code} {Q':eC} (h:GW P m c Q fr Γ) (hq:∀ e fr Γ,Q e fr Γ->Q' e fr Γ):GW P m c Q' fr Γ:=fun B K β w l hm hI hF =>
 W.mono (h B K β w l hm hI hF) fun e l w ⟨K,β,fr,Γ,hI,hF,q⟩=>⟨K,β,fr,Γ,hI,hF,hq _ _ _ q⟩
def CM (m:Nat) (K:List GV->List Ob->Prop) (fr:List GV) (Γ:List Ob):Prop:=∃ cV aZ,Wk m fr Γ cV aZ/\K cV aZ
theorem GW.loop {c:Code} {α:Type} (μ:α->Nat) (aeI:α->List GV->List Ob->Prop) (x:α) (h0:CM m (aeI x) fr Γ)
  (round:∀ x fr Γ,aeI x fr Γ->GW P m c (aU (fun cV aZ=>∃ y,CM m (aeI y) cV aZ/\μ y < μ x) Q) fr Γ):GW P m (.loop c) Q fr Γ:=fun B K β w l hm hI hF=>by
 obtain ⟨cV,aZ,hw,h0⟩:=h0;obtain ⟨K',b9,bE,yL⟩:=hw B K β w l hm hI hF;refine W.loop μ (fun x l w=>∃ K β fr Γ,Inv B K β Γ w/\FR K β fr l/\aeI x fr Γ) x ⟨K',b9,cV,aZ,bE,yL,h0⟩ ?_;rintro x l w ⟨K,β,fr,Γ,hI,hF,hi⟩;refine W.mono (round x fr Γ hi B K β w l hm hI hF) ?_;rintro e l w ⟨K,β,fr,Γ,hI,hF,hq⟩
 cases e with
 | normal =>
  obtain ⟨y,⟨cV,aZ,hw,hy⟩,au⟩:=hq;obtain ⟨K',b9,bE,yL⟩:=hw B K β w l hm hI hF;exact ⟨y,⟨K',b9,cV,aZ,bE,yL,hy⟩,au⟩
 | _=>exact zdm
theorem GW.region {id:Nat} {ol:List Oper} (h:GL P m ol.toArray Q ol fr Γ):GW P m (.region id ol.toArray false) Q fr Γ:=fun B K β w l hm hI hF=>W.region (h B K β w l hm hI hF)
theorem GL.nil (h:Q .normal fr Γ):GL P m ops Q [] fr Γ:=fun B K β w l hm hI hF=>WL.nil ⟨K,β,fr,Γ,hI,hF,h⟩
end
section
variable {next:List GV->List Ob->Prop} {Q:eC} {fr:List GV} {Γ:List Ob} {id EJ:Nat}
theorem bc (h:next fr Γ):aU next Q .normal fr Γ:=h
theorem JF (h:Q (.exit id) fr Γ):aU next Q (.exit id) fr Γ:=h
theorem mr (h:Q .ret fr Γ):aU next Q .ret fr Γ:=h
theorem jl (h:Q .normal fr Γ):aW id Q .normal fr Γ:=h
theorem mq (h:Q .ret fr Γ):aW id Q .ret fr Γ:=h
theorem MX (h:Q .normal fr Γ):aW id Q (.exit id) fr Γ:=by simpa [aW] using h
end
def GC (P:Program) (f:FuncId) (gs:List GV) (Γ:List Ob) (R:GV->List Ob->Prop):Prop :=
 ∀ B K β w vs,B.m=Γ.length->Inv B K β Γ w->bC K β vs gs->pV P f vs w fun v w'=>∃ K' b9 g aZ,Inv B K' b9 aZ w'/\Rel K' b9 v g/\R g aZ
abbrev GF (P:Program) (f:FuncId) (gs:List GV) (Γ:List Ob) (g:GV) (aZ:List Ob):Prop:=GC P f gs Γ fun x Δ=>x=g/\Δ=aZ
theorem GC.mono {P:Program} {f:FuncId} {gs:List GV} {Γ:List Ob} {R R':GV->List Ob->Prop} (h:GC P f gs Γ R) (hr:∀ g Γ,R g Γ->R' g Γ):GC P f gs Γ R':=fun B K β w vs hm hI hF =>
 (h B K β w vs hm hI hF).mono fun v w' ⟨K',b9,g,aZ,I,G,h3⟩=>⟨K',b9,g,aZ,I,G,hr _ _ h3⟩
def JC:Nat->List GV
 | 0=>[]
 | n+1=>.v undef::JC n
def A9:List GV->Nat->List GV
 | [],n=>JC n
 | a::r,n=>a::A9 r (n - 1)
theorem FR.KJ {K:Fz} {β:Bt} (n:Nat):FR K β (JC n) (KJ n):=by
 induction n with
 | zero=>exact .nil
 | succ n ih=>exact .cons (.v _) ih
theorem FR.frame {K:Fz} {β:Bt} {vs:List Value} {gs:List GV} (h:bC K β vs gs) (n:Nat):FR K β (A9 gs n) (frame vs n):=by
 induction gs generalizing vs n with
 | nil =>
  have:vs=[]:=ig h.1;subst this;exact FR.KJ n
 | cons g gs ih =>
  cases vs with
  | nil=>have:=h.1;simp at this
  | cons v vs=>obtain ⟨I,G⟩:=h.rj;exact .cons I (ih G _)
def wL (P:Program) (fn:Func) (m:Nat) (R:GV->List Ob->Prop):eC:=fun e fr Γ =>
 (e=.normal\/e=.ret)/\∀ B K β w l,B.m=m->Inv B K β Γ w->FR K β fr l->∃ v K' b9 g aZ,(results fn l.toArray).run P w=.ok v w/\Inv B K' b9 aZ w/\Rel K' b9 v g/\R g aZ
theorem GC.enter {P:Program} {f:FuncId} {fn:Func} {c:Code} {gs:List GV} {Γ:List Ob} {R:GV->List Ob->Prop} {n:Nat} {fr:List GV}
  (hf:P.funcs[f]?=some fn) (hn:fn.ntmps=n) (hb:fn.body=some c) (hl:A9 gs n=fr) (h:GW P Γ.length c (wL P fn Γ.length R) fr Γ):GC P f gs Γ R:=fun B K β w vs hm hI hF=>by
 subst hl;refine pV.enter hf hn hb rfl (W.mono (h B K β w _ hm hI (FR.frame hF n)) ?_);rintro e l w ⟨K,β,fr,Γ,hI,hF,he,hq⟩;obtain ⟨v,K',b9,g,aZ,I,G,h3,h4⟩:=hq B K β w l hm hI hF
 rcases he with rfl | rfl
 ·exact ⟨v,I,K',b9,g,aZ,G,h3,h4⟩
 ·exact ⟨v,I,K',b9,g,aZ,G,h3,h4⟩
section
variable {P:Program} {fn:Func} {m:Nat} {R:GV->List Ob->Prop} {fr:List GV} {Γ:List Ob} {e:Exit}
theorem aai {n:Nat} (hr:fn.results=#[]) (he:e=.normal\/e=.ret) (hm:m<=n) (hl:vQ n (Γ.take n)=true) (h:R (.tup []) (Γ.take n)):wL P fn m R e fr Γ :=
 ⟨he,fun B K β w l hB hI hF=>⟨.tuple #[],K,fi (below n) β,.tup [],Γ.take n,by rw [results_none hr],hI.cut zgb hl,.tup [] [] rfl (fun i v g h=>by simp at h),h⟩⟩
theorem la {n:Nat} {t:Tmp} {g:GV} (hr:fn.results=#[.tmp t]) (he:e=.normal\/e=.ret) (hg:dc fr t=g) (hm:m<=n) (hl:vQ n (Γ.take n)=true) (kQ:g.lt n=true) (h:R g (Γ.take n)):wL P fn m R e fr Γ :=
 ⟨he,fun B K β w l hB hI hF=>⟨nth l t,K,fi (below n) β,g,Γ.take n,by rw [results_tmp hr,kX],hI.cut zgb hl,by rw [<-hg] at kQ |-;exact (hF.nth t).res kQ,h⟩⟩
theorem aaj {n:Nat} {t u:Tmp} {g g':GV} (hr:fn.results=#[.tmp t,.tmp u]) (he:e=.normal\/e=.ret) (hg:dc fr t=g) (nw:dc fr u=g') (hm:m<=n) (hl:vQ n (Γ.take n)=true) (kQ:(GV.tup [g,g']).lt n=true) (h:R (.tup [g,g']) (Γ.take n)):wL P fn m R e fr Γ :=
 ⟨he,fun B K β w l hB hI hF=>⟨.tuple #[nth l t,nth l u],K,fi (below n) β,.tup [g,g'],Γ.take n,by rw [results_tmp2 hr,kX,kX],hI.cut zgb hl,by
  refine Rel.res ?_ kQ;subst hg nw;have hc:bC K β [nth l t,nth l u] [dc fr t,dc fr u]:=.cons (hF.nth t) (.cons (hF.nth u) .nil)
  exact .tup [nth l t,nth l u] _ hc.1 hc.2,h⟩⟩
theorem aak {n:Nat} {t u s:Tmp} {g g' g2:GV} (hr:fn.results=#[.tmp t,.tmp u,.tmp s]) (he:e=.normal\/e=.ret) (hg:dc fr t=g) (nw:dc fr u=g') (iO:dc fr s=g2) (hm:m<=n) (hl:vQ n (Γ.take n)=true) (kQ:(GV.tup [g,g',g2]).lt n=true)
  (h:R (.tup [g,g',g2]) (Γ.take n)):wL P fn m R e fr Γ :=
 ⟨he,fun B K β w l hB hI hF=>⟨.tuple #[nth l t,nth l u,nth l s],K,fi (below n) β,.tup [g,g',g2],Γ.take n,by
   rw [<-kX l t,<-kX l u,<-kX l s];simp [results,hr],hI.cut zgb hl,by
  refine Rel.res ?_ kQ;subst hg nw iO;have hc:bC K β [nth l t,nth l u,nth l s] [dc fr t,dc fr u,dc fr s]:=.cons (hF.nth t) (.cons (hF.nth u) (.cons (hF.nth s) .nil))
  exact .tup [nth l t,nth l u,nth l s] _ hc.1 hc.2,h⟩⟩
theorem aal {n:Nat} {t:Tmp} {T:TypeId} {k:Nat} [hT:Ty P T true k] {i:Nat} {E:TypeId} {cs:List GV} (hr:fn.results=#[.cell t T]) (he:e=.normal\/e=.ret) (hg:dc fr t=.loc i 0) (bH:Γ[i]?=some (.box E cs)) (hk:cs.length=k)
  (hm:m<=n) (hl:vQ n (Γ.take n)=true) (kQ:(GV.agg cs).lt n=true) (h:R (.agg cs) (Γ.take n)):wL P fn m R e fr Γ :=
 ⟨he,fun B K β w l hB hI hF=>by
  obtain ⟨b,vs,I,G,h3,h4⟩:=hI.ob i _ bH
  have hp:nth l t=.pointer (some ⟨b,0,none⟩):=by
   have:=hF.nth t;rw [hg] at this;generalize nth l t=v at this
   cases this with
   | loc _ _ b' bG=>rw [I] at bG;cases bG;rfl
  have mH:l.toArray.getD t undef=.pointer (some ⟨b,0,none⟩):=by rw [kX,hp]
  have EA:=pe (P:=P) (w:=w) (t:=T) (b:=b) (o:=0) (vs:=vs) (k:=k) zgS (fun j v hj=>by
   rw [dJ,cell_of_row w b j _ E (0,0) G];simpa using hj)
  have zU:l[t]?.getD undef=.pointer (some ⟨b,0,none⟩):=by simpa using mH
  exact ⟨.agg vs.toArray,K,fi (below n) β,.agg cs,Γ.take n,by simp [results,hr,zU,asAddr,EA],hI.cut zgb hl,Rel.res (.agg vs cs h3.1 h3.2) kQ,h⟩⟩
end
def YG (P:Program) (op:Op) (fr:List GV) (Γ:List Ob) (g:GV):Prop :=
 ∀ B K β w l,Inv B K β Γ w->FR K β fr l->∃ v,fP P l w op v/\Rel K β v g
section
variable {P:Program} {m:Nat} {Q:eC} {fr:List GV} {Γ:List Ob} {ops:Array Oper} {rest:List Oper} {d:Option Tmp} {op:Op} {ty:TypeId} {pos:String} {af:Array Edge}
theorem GL.q {g:GV} (hy:YG P op fr Γ g) (h:GL P m ops Q rest (bR fr d g) Γ):GL P m ops Q (⟨d,op,ty,pos,af,none⟩::rest) fr Γ:=fun B K β w l hm hI hF=>by
 obtain ⟨v,hr,hv⟩:=hy B K β w l hI hF;exact WL.v hr (h B K β w _ hm hI (hF.put d hv))
theorem ub {cV:List GV} {aZ:List Ob} (I:fr=cV) (G:Γ=aZ) (h:GL P m ops Q rest cV aZ):GL P m ops Q rest fr Γ:=by subst I;subst G;exact h
theorem GN {cV:List GV} (I:fr=cV) (h:GL P m ops Q rest cV Γ):GL P m ops Q rest fr Γ:=by subst I;exact h
theorem YG.v1 {x:Operand} {a v:Value} (hx:bq fr x=.v a) (h:∀ l w,ev l x=a->fP P l w op v):YG P op fr Γ (.v v):=fun B K β w l hI hF=>⟨v,h l w (hF.lq hx),.v v⟩
theorem YG.v2 {x y:Operand} {a b v:Value} (hx:bq fr x=.v a) (hy:bq fr y=.v b) (h:∀ l w,ev l x=a->ev l y=b->fP P l w op v):YG P op fr Γ (.v v):=fun B K β w l hI hF=>⟨v,h l w (hF.lq hx) (hF.lq hy),.v v⟩
theorem YG.mv {x:Operand}:YG P (.move x) fr Γ (bq fr x):=fun B K β w l hI hF=>⟨_,R.mv,hF.ev x⟩
theorem YG.mG {x:Operand}:YG P (.assign x) fr Γ (bq fr x):=fun B K β w l hI hF=>⟨_,R.mG,hF.ev x⟩
theorem YG.F7 {fn:Fn} {first cap:List Operand}:YG P (.makeFunc fn first.toArray cap.toArray) fr Γ (.fn fn (first.map (bq fr)) (cap.map (bq fr))):=fun B K β w l hI hF =>
 ⟨_,R.F7,by
  have I:=hF.args first
  have G:=hF.args cap
  simpa using Rel.fn fn _ _ _ _ I.1 G.1 I.2 G.2⟩
def FT:GV->Value
 | .v x=>x
 | _=>.nilFunc
def go2 (ρ:Operand->Value) (op:Op):Option Value :=
 match op with
 | .binOp _ _ _ _ _=>go ρ op
 | .unOp _ _ _=>go ρ op
 | _=>none
theorem Yz {K:Fz} {β:Bt} {x:Value} {g:GV} (h:Rel K β x g):FT g=x\/FT g=.nilFunc:=by
 cases h <;> first | exact .inl rfl | exact .inr rfl
theorem YG.go {v:Value} (h:go2 (fun x=>FT (bq fr x)) op=some v):YG P op fr Γ (.v v):=fun B K β w l hI hF=>by
 refine ⟨v,Yy ?_,.v v⟩
 have key:∀ x,FT (bq fr x)=ev l x\/FT (bq fr x)=.nilFunc:=fun x=>Yz (hF.ev x)
 unfold go2 at h;split at h
 ·rename_i o t x y t';simp only [Xw.go] at h |-
  rcases key x with hx | hx <;> rcases key y with hy | hy <;> rw [hx,hy] at h
  ·exact h
  ·cases hv:ev l x <;> rw [hv] at h <;> cases h
  ·cases h
  ·cases h
 ·rename_i o t x;simp only [Xw.go,zK] at h |-
  rcases key x with hx | hx <;> rw [hx] at h
  ·exact h
  ·cases o <;> simp only at h <;> cases h
 ·cases h
theorem YG.XI {c a b:Operand} {t:Bool} (hc:bq fr c=.v (.bool t)) (ht:t=true):YG P (.pick c a b) fr Γ (bq fr a):=fun B K β w l hI hF=>⟨_,R.XI (hF.lq hc) ht,hF.ev a⟩
theorem YG.XH {c a b:Operand} {t:Bool} (hc:bq fr c=.v (.bool t)) (ht:t=false):YG P (.pick c a b) fr Γ (bq fr b):=fun B K β w l hI hF=>⟨_,R.XH (hF.lq hc) ht,hF.ev b⟩
theorem YG.adT {x:Operand} {i o:Nat} (hx:bq fr x=.loc i o):YG P (.nilCheck x) fr Γ (.loc i o):=fun B K β w l hI hF=>by
 have h:=hF.ev x;rw [hx] at h;generalize hv:ev l x=v at h
 cases h with | loc _ _ b hb=>exact ⟨_,R.PI hv,.loc i o b hb⟩
theorem YG.PH {x:Operand} {cs:List GV} {o:Nat} (hx:bq fr x=.box cs o):YG P (.nilCheck x) fr Γ (.box cs o):=fun B K β w l hI hF=>by
 have h:=hF.ev x;rw [hx] at h;generalize hv:ev l x=v at h
 cases h with | box b o' _ _ hb=>exact ⟨_,R.PI hv,.box b o' o cs hb⟩
theorem YG.VB {x:Operand} {t:TypeId} [hT:tw P t] {s:ae} (hx:bq fr x=.v (sv s)):YG P (.call ⟨.builtin .len,#[x],#[t]⟩) fr Γ (.v (ii s.length)):=YG.v1 hx fun l w h=>R.VB h
theorem YG.acb {x:Operand} {t e:TypeId} {k:Nat} [hT:pW P t e k] {k':Nat} {rows:List (List GV)} (hx:bq fr x=.sl k' rows):YG P (.call ⟨.builtin .len,#[x],#[t]⟩) fr Γ (.v (ii rows.length)):=fun B K β w l hI hF=>by
 have h:=hF.ev x;rw [hx] at h;generalize hv:ev l x=v at h
 cases h with
 | sl0 a c=>exact ⟨_,R.PC hv,.v _⟩
 | sl b o c _ _ h _=>exact ⟨_,R.PC hv,.v _⟩
theorem YG.adN {x:Operand} {t e:TypeId} {k:Nat} [hT:pW P t e k] {i n:Nat} (hx:bq fr x=.vec i n):YG P (.call ⟨.builtin .len,#[x],#[t]⟩) fr Γ (.v (ii n)):=fun B K β w l hI hF=>by
 have h:=hF.ev x;rw [hx] at h;generalize hv:ev l x=v at h
 cases h with | vec _ _ a c h=>exact ⟨_,R.PC hv,.v _⟩
theorem YG.adM {x:Operand} {t e:TypeId} {k:Nat} [hT:pW P t e k] {a:Option Addr} {n c:Nat} (hx:bq fr x=.v (.slice a n c)):YG P (.call ⟨.builtin .len,#[x],#[t]⟩) fr Γ (.v (ii n)):=YG.v1 hx fun l w h=>R.PC h
theorem YG.oO {x y:Operand} {t t':TypeId} {a b:ae} (hx:bq fr x=.v (sv a)) (hy:bq fr y=.v (sv b)):YG P (.binOp .eql t x y t') fr Γ (.v (.bool (a==b))):=YG.v2 hx hy fun l w h k=>R.oO h k
theorem YG.oY {x y:Operand} {t t':TypeId} {a b:ae} (hx:bq fr x=.v (sv a)) (hy:bq fr y=.v (sv b)):YG P (.binOp .neq t x y t') fr Γ (.v (.bool (!(a==b)))):=YG.v2 hx hy fun l w h k=>R.oY h k
theorem YG.jC {x y:Operand} {t:TypeId} [hT:tw P t] {s:ae} {k:IntKind} {i:Nat} {c:UInt8} (hx:bq fr x=.v (sv s)) (hy:bq fr y=.v (.int k i)) (hc:s[i]?=some c):YG P (.index t x y) fr Γ (.v (.int .u8 c.toNat)):=YG.v2 hx hy fun l w h k=>R.jC h k hc
theorem YG.add {x y:Operand} {t t':TypeId} {a b:Int} (hx:bq fr x=.v (ii a)) (hy:bq fr y=.v (ii b)) (hb : -9223372036854775808<=a+b/\a+b<=9223372036854775807):YG P (.binOp .add t x y t') fr Γ (.v (ii (a+b))):=YG.v2 hx hy fun l w h k=>R.add h k hb.1 hb.2
theorem YG.addN {x y:Operand} {t t':TypeId} {a b:Nat} (hx:bq fr x=.v (ii a)) (hy:bq fr y=.v (ii b)) (hb:a+b<=9223372036854775807):YG P (.binOp .add t x y t') fr Γ (.v (ii ((a+b:Nat):Int))):=YG.v2 hx hy fun l w h k=>R.addN h k hb
theorem YG.kG {x y:Operand} {t t':TypeId} {a:Nat} (hx:bq fr x=.v (ii a)) (hy:bq fr y=.v (ii 1)) (hb:a+1<=9223372036854775807):YG P (.binOp .add t x y t') fr Γ (.v (ii ((a+1:Nat):Int))):=YG.v2 hx hy fun l w h k=>R.kG h k hb
theorem YG.sub {x y:Operand} {t t':TypeId} {a b:Int} (hx:bq fr x=.v (ii a)) (hy:bq fr y=.v (ii b)) (hb : -9223372036854775808<=a - b/\a - b<=9223372036854775807):YG P (.binOp .sub t x y t') fr Γ (.v (ii (a - b))):=YG.v2 hx hy fun l w h k=>R.sub h k hb.1 hb.2
theorem YG.mul {x y:Operand} {t t':TypeId} {a b:Int} (hx:bq fr x=.v (ii a)) (hy:bq fr y=.v (ii b)) (hb : -9223372036854775808<=a * b/\a * b<=9223372036854775807):YG P (.binOp .mul t x y t') fr Γ (.v (ii (a * b))):=YG.v2 hx hy fun l w h k=>R.mul h k hb.1 hb.2
theorem YG.cat {x y:Operand} {t t':TypeId} {a b:ae} (hx:bq fr x=.v (sv a)) (hy:bq fr y=.v (sv b)) (hb:a.length+b.length<=9223372036854775807):YG P (.binOp .add t x y t') fr Γ (.v (sv (a++b))):=YG.v2 hx hy fun l w h k=>R.cat h k hb
theorem YG.mj {x:Operand} {t:TypeId} [hT:tw P t] {s:ae} {lo hi:Operand} {k k':IntKind} {i j:Nat} (hx:bq fr x=.v (sv s)) (kR:bq fr lo=.v (.int k i)) (yO:bq fr hi=.v (.int k' j)) (hb:i<=j/\j<=s.length):YG P (.slice t x (some lo) (some hi) none) fr Γ (.v (sv ((s.take j).drop i))) :=
 fun B K β w l hI hF=>⟨_,R.V6 (hF.lq hx) ⟨k,hF.lq kR⟩ ⟨k',hF.lq yO⟩ hb.1 hb.2,.v _⟩
theorem YG.mi {x:Operand} {t:TypeId} [hT:tw P t] {s:ae} {lo:Operand} {k:IntKind} {i:Nat} (hx:bq fr x=.v (sv s)) (kR:bq fr lo=.v (.int k i)) (hb:i<=s.length):YG P (.slice t x (some lo) none none) fr Γ (.v (sv (s.drop i))) :=
 fun B K β w l hI hF=>⟨_,by
  have:=R.V6 (P:=P) (w:=w) (l:=l) (t:=t) (lo:=some lo) (hi:=none) (i:=i) (j:=s.length) (hF.lq hx) ⟨k,hF.lq kR⟩ rfl hb (aI _);rw [c7] at this
  exact this,.v _⟩
theorem YG.mh {x:Operand} {t:TypeId} [hT:tw P t] {s:ae} {hi:Operand} {k:IntKind} {j:Nat} (hx:bq fr x=.v (sv s)) (yO:bq fr hi=.v (.int k j)) (hb:j<=s.length):YG P (.slice t x none (some hi) none) fr Γ (.v (sv (s.take j))) :=
 fun B K β w l hI hF=>⟨_,R.V6 (P:=P) (w:=w) (l:=l) (t:=t) (lo:=none) (hi:=some hi) (i:=0) (j:=j) (hF.lq hx) rfl ⟨k,hF.lq yO⟩ (aS _) hb,.v _⟩
theorem YG.ext {x:Operand} {i:Nat} {cs:List GV} {g:GV} (hx:bq fr x=.tup cs) (hg:cs[i]?=some g):YG P (.extract x i) fr Γ g:=fun B K β w l hI hF=>by
 have h:=hF.ev x;rw [hx] at h;generalize hv:ev l x=v at h
 cases h with
 | tup vs _ hl h =>
  have hi:i < vs.length:=by rw [hl];exact (bB hg).1
  exact ⟨vs[i],R.extract hv zgT,h i _ g zgT hg⟩
theorem YG.hO {x y:Operand} {t e:TypeId} {k:Nat} [hT:pW P t e k] {rows:List (List GV)} {kk:IntKind} {i:Nat} {r:List GV} (hx:bq fr x=.sl k rows) (hy:bq fr y=.v (.int kk i)) (hr:rows[i]?=some r):YG P (.indexAddr t x y) fr Γ (.box r 0):=fun B K β w l hI hF=>by
 have h:=hF.ev x;rw [hx] at h;have hi:=(bB hr).1;generalize hv:ev l x=v at h
 cases h with
 | sl0 a c=>simp at hi
 | sl b o c _ _ h _=>exact ⟨_,R.kJ hv (hF.lq hy) hi,.box b (o+i * k) 0 r (h i r hr).2⟩
theorem YG.aad {x:Operand} {s:TypeId} {f off k:Nat} {agg:Bool} [hT:gq P s f off k agg] {i o:Nat} (hx:bq fr x=.loc i o):YG P (.fieldAddr s x f) fr Γ (.loc i (o+off)):=fun B K β w l hI hF=>by
 have h:=hF.ev x;rw [hx] at h;generalize hv:ev l x=v at h
 cases h with | loc _ _ b hb=>exact ⟨_,R.UO hv,.loc i _ b hb⟩
theorem YG.aab {x:Operand} {s:TypeId} {f off k:Nat} {agg:Bool} [hT:gq P s f off k agg] {cs:List GV} {o:Nat} (hx:bq fr x=.box cs o):YG P (.fieldAddr s x f) fr Γ (.box cs (o+off)):=fun B K β w l hI hF=>by
 have h:=hF.ev x;rw [hx] at h;generalize hv:ev l x=v at h
 cases h with | box b o' _ _ hb=>exact ⟨_,R.UO hv,by rw [iJ];exact .box b o' _ cs hb⟩
theorem YG.ldL {x:Operand} {t:TypeId} [hT:Ty P t false 1] {i o:Nat} {E:TypeId} {cs:List GV} {g:GV} (hx:bq fr x=.loc i o) (bH:Γ[i]?=some (.box E cs)) (hg:cs[o]?=some g):YG P (.load t x) fr Γ g:=fun B K β w l hI hF=>by
 have h:=hF.ev x;rw [hx] at h;generalize hv:ev l x=v at h
 cases h with
 | loc _ _ b hb =>
  obtain ⟨b',vs,I,G,h3,h4⟩:=hI.ob i _ bH;rw [hb] at I;cases I;obtain ⟨u,hu,hr⟩:=h3.at hg;exact ⟨u,R.ld hv (zB G (by simpa using hu)),hr⟩
theorem YG.ldB {x:Operand} {t:TypeId} [hT:Ty P t false 1] {cs:List GV} {o:Nat} {g:GV} (hx:bq fr x=.box cs o) (hg:cs[o]?=some g):YG P (.load t x) fr Γ g:=fun B K β w l hI hF=>by
 have h:=hF.ev x;rw [hx] at h;generalize hv:ev l x=v at h
 cases h with
 | box b o' _ _ hb =>
  obtain ⟨hp,u,hu,hr⟩:=hI.fz _ _ _ (hb o g hg);exact ⟨u,R.ld hv hu,hr.pc hp⟩
theorem xh {k:Nat} {rows:List (List GV)} (hk:kp k rows) {i j:Nat} {r:List GV} {g:GV} (hr:rows[i]?=some r) (hg:r[j]?=some g):rows.flatten[i * k+j]?=some g:=by
 induction rows generalizing i with
 | nil=>simp at hr
 | cons a rows ih =>
  have ha:a.length=k:=(hk a (mem_cons_self)).1
  cases i with
  | zero =>
   cases hr;have hj:=(bB hg).1;rw [Nat.zero_mul,dJ,flatten_cons,gm hj];exact hg
  | succ i =>
   rw [flatten_cons,gR (by rw [ha,Nat.succ_mul];omega),ha];rw [show (i+1) * k+j - k=i * k+j by rw [Nat.succ_mul];omega];exact ih (fun r hr=>hk r (dK _ hr)) (by simpa using hr)
theorem YG.Vy {x:Operand} {t:TypeId} {k:Nat} [hT:Ty P t true k] {i o:Nat} {E:TypeId} {cs gs:List GV} (hx:bq fr x=.loc i o) (bH:Γ[i]?=some (.box E cs)) (hg:(cs.drop o).take k=gs) (hk:gs.length=k):YG P (.load t x) fr Γ (.agg gs):=fun B K β w l hI hF=>by
 have h:=hF.ev x;rw [hx] at h;generalize hv:ev l x=v at h
 cases h with
 | loc _ _ b hb =>
  obtain ⟨b',vs,I,G,h3,h4⟩:=hI.ob i _ bH;rw [hb] at I;cases I;have h5:=(h3.drop o).take k;rw [hg] at h5;refine ⟨.agg ((vs.drop o).take k).toArray,R.ldS hv (by rw [h5.1,hk]) (fun j v hj=>?_),.agg _ _ h5.1 h5.2⟩;rw [getElem?_take] at hj;split at hj
  ·rw [getElem?_drop] at hj;exact zB G zgp
  ·cases hj
theorem zD {K:Fz} {β:Bt} {H:Array Obj} {b:Nat}:∀ (gs:List GV) (o:Nat),(∀ (j:Nat) g,gs[j]?=some g->∃ v,jQ H b (o+j)=some v/\Rel K β v g)->∃ vs:List Value,bC K β vs gs/\∀ (j:Nat) v,vs[j]?=some v->jQ H b (o+j)=some v
 | [],o,_=>⟨[],.nil,fun j v h=>by simp at h⟩
 | g::gs,o,h=>by
  obtain ⟨v,hv,hr⟩:=h 0 g rfl;obtain ⟨vs,I,G⟩:=zD gs (o+1) (fun j g' hg=>by rw [show o+1+j=o+(j+1) by omega];exact h (j+1) g' hg);refine ⟨v::vs,.cons hr I,fun j u hj=>?_⟩
  cases j with
  | zero=>cases hj;exact hv
  | succ j=>rw [show o+(j+1)=o+1+j by omega];exact G j u hj
theorem YG.aaL {x:Operand} {t:TypeId} {k:Nat} [hT:Ty P t true k] {cs gs:List GV} {o:Nat} (hx:bq fr x=.box cs o) (hg:(cs.drop o).take k=gs) (hk:gs.length=k):YG P (.load t x) fr Γ (.agg gs):=fun B K β w l hI hF=>by
 have h:=hF.ev x;rw [hx] at h;generalize hv:ev l x=v at h
 cases h with
 | box b o' _ _ hb =>
  obtain ⟨vs,I,G⟩:=zD (K:=K) (β:=β) (H:=w.heap) (b:=b) gs (o'+o) (fun j g hj=>by
   have oy:cs[o+j]?=some g:=by
    rw [<-hg,getElem?_take] at hj;split at hj
    ·rw [getElem?_drop] at hj;exact hj
    ·cases hj
   obtain ⟨hp,u,hu,hr⟩:=hI.fz _ _ _ (hb (o+j) g oy)
   exact ⟨u,by rw [iJ];exact hu,hr.pc hp⟩)
  exact ⟨.agg vs.toArray,R.ldS hv (by rw [I.1,hk]) G,.agg _ _ I.1 I.2⟩
def oS:GV->Option (List GV)
 | .v x=>match PO x with
  | true=>some [.v x]
  | false=>none
 | .agg cs=>some cs
 | .U=>none
 | .tup _=>none
 | .vp _ _ _ _ _=>none
 | .sl k rows=>some [.sl k rows]
 | .box cs o=>some [.box cs o]
 | .loc i o=>some [.loc i o]
 | .vec i n=>some [.vec i n]
 | .arr i o n=>some [.arr i o n]
 | .fn f a c=>some [.fn f a c]
def sk:List GV->Nat->List GV->List GV
 | cs,_,[]=>cs
 | cs,o,v::r=>sk (bX cs o v) (o+1) r
def Cm (pl:Nat->Option (Nat × Nat)):List GV->List (Nat × GV)->Option (List GV)
 | cs,[]=>some cs
 | cs,(i,g)::r=>match pl i with
  | none=>none
  | some (o,k)=>match oS g with
   | none=>none
   | some gs=>if gs.length≠k || decide (o+gs.length > cs.length) then none else Cm pl (sk cs o gs) r
theorem Rel.cells {K:Fz} {β:Bt} {x:Value} {g:GV} {gs:List GV} (h:Rel K β x g) (hg:oS g=some gs):∃ vs:List Value,x.cells=vs.toArray/\bC K β vs gs:=by
 have one:∀ {x:Value} {g:GV},Rel K β x g->x.cells=#[x]->∃ vs:List Value,x.cells=vs.toArray/\bC K β vs [g]:=fun hr hc=>⟨[_],hc,.cons hr .nil⟩
 cases h with
 | v x =>
  simp only [oS] at hg;split at hg
  ·rename_i ho;cases hg;exact one (.v _) (Ak ho).1
  ·cases hg
 | U x=>cases hg
 | agg vs cs hl h=>cases hg;exact ⟨vs,rfl,hl,h⟩
 | tup vs cs hl h=>cases hg
 | sl0 a c k=>cases hg;exact one (.sl0 a c k) rfl
 | sl b o c k rows h hc=>cases hg;exact one (.sl b o c k rows h hc) rfl
 | box b o' o cs h=>cases hg;exact one (.box b o' o cs h) rfl
 | loc i o b h=>cases hg;exact one (.loc i o b h) rfl
 | vec i n a c h=>cases hg;exact one (.vec i n a c h) rfl
 | vp i n k idx off x h=>cases hg
 | arr i o n b c h=>cases hg;exact one (.arr i o n b c h) rfl
 | fn f xs ys first cap hl lH h h'=>cases hg;exact one (.fn f xs ys first cap hl lH h h') rfl
def pP:List GV->Bool
 | []=>true
 | g::gs=>g.one&&pP gs
def th:List GV->Bool
 | []=>true
 | g::gs=>g.pc&&th gs
theorem o8 {gs:List GV} (h:th gs=true):∀ g∈gs,g.pc=true:=by
 induction gs with
 | nil=>intro g hg;cases hg
 | cons x gs ih =>
  simp only [th,aK] at h;intro g hg
  rcases fh hg with rfl | hg
  ·exact h.1
  ·exact ih h.2 g hg
theorem bC.pO {K:Fz} {β:Bt} {vs:List Value} {gs:List GV} (h:bC K β vs gs) (ho:pP gs=true):pO vs=true:=by
 induction gs generalizing vs with
 | nil=>have:vs=[]:=ig h.1;subst this;rfl
 | cons g gs ih =>
  cases vs with
  | nil=>have:=h.1;simp at this
  | cons v vs =>
   simp only [pP,aK] at ho;obtain ⟨I,G⟩:=h.rj;have h3:=(Ak (I.one ho.1)).2;have h4:=ih G ho.2;simp only [Xw.pO,all_cons,aK] at h4 |-;exact ⟨h3,h4⟩
end
theorem bC.pf {K:Fz} {β:Bt} {us:List Value} {hs:List GV} (k:bC K β us hs):∀ {vs:List Value} {gs:List GV} (o:Nat),bC K β vs gs->bC K β (pf vs o us) (sk gs o hs):=by
 have hu:∀ {vs:List Value} {gs:List GV} (o:Nat) {v:Value} {g:GV},Rel K β v g->bC K β vs gs->bC K β (gJ vs o v) (bX gs o g):=by
  intro vs
  induction vs with
  | nil =>
   intro gs o v g hv h;have:gs=[]:=ig h.1.symm;subst this;exact .nil
  | cons x vs ih =>
   intro gs o v g hv h
   cases gs with
   | nil=>have:=h.1;simp at this
   | cons y gs =>
    obtain ⟨I,G⟩:=h.rj
    cases o with
    | zero=>exact .cons hv G
    | succ o=>exact .cons I (ih o hv G)
 induction us generalizing hs with
 | nil =>
  intro vs gs o h;have:hs=[]:=ig k.1.symm;subst this;exact h
 | cons u us ih =>
  intro vs gs o h
  cases hs with
  | nil=>have:=k.1;simp at this
  | cons g hs =>
   obtain ⟨I,G⟩:=k.rj;exact ih G (o+1) (hu o I h)
theorem zI {K:Fz} {β:Bt} {pl:Nat->Option (Nat × Nat)} {l:List Value} {fr:List GV} (hF:FR K β fr l):∀ (parts:List (Nat × Operand)) (vs:List Value) (gs cs:List GV),bC K β vs gs ->
  Cm pl gs (parts.map fun x=>(x.1,bq fr x.2))=some cs->∃ us,tE pl vs (parts.map fun x=>(x.1,ev l x.2))=some us/\bC K β us cs
 | [],vs,gs,cs,h,hf=>by cases hf;exact ⟨vs,rfl,h⟩
 | (i,x)::r,vs,gs,cs,h,hf=>by
  simp only [List.map_cons,Cm] at hf;simp only [List.map_cons,tE]
  cases hp:pl i with
  | none=>rw [hp] at hf;cases hf
  | some y =>
   obtain ⟨o,k⟩:=y;rw [hp] at hf;simp only at hf |-
   cases hg:oS (bq fr x) with
   | none=>rw [hg] at hf;cases hf
   | some hs =>
    rw [hg] at hf;simp only at hf;obtain ⟨us,oX,qf⟩:=(hF.ev x).cells hg
    have dj:(ev l x).cells.size=hs.length:=by rw [oX];simpa using qf.1
    rw [dj,h.1];split at hf
    ·cases hf
    ·rename_i hc;rw [ab hc]
     have nz:(ev l x).cells.toList=us:=by rw [oX]
     rw [nz];exact zI hF r _ _ cs (qf.pf o h) hf
section
variable {P:Program} {m:Nat} {Q:eC} {fr:List GV} {Γ:List Ob} {ops:Array Oper} {rest:List Oper} {d:Option Tmp} {op:Op} {ty:TypeId} {pos:String} {af:Array Edge}
def rK (z:List Value):List GV:=z.map .v
theorem YG.build {t:TypeId} {pl:List (Nat × Nat)} {z:List Value} [hT:wA P t pl z] {parts:List (Nat × Operand)} {cs:List GV} (hf:Cm (fun i=>pl[i]?) (rK z) (parts.map fun x=>(x.1,bq fr x.2))=some cs) :
  YG P (.build t parts.toArray) fr Γ (.agg cs):=fun B K β w l hI hF=>by
 obtain ⟨us,I,G⟩:=zI hF parts z _ cs bC.self hf;exact ⟨_,R.build I,.agg us cs G.1 G.2⟩
theorem qh {K:Fz} {β:Bt} {l:List Value} {t:Nat} (h:FR K β fr l) (ht:ly fr t=true):ly l t=true:=by
 induction h generalizing t with
 | nil=>cases ht
 | cons _ _ ih=>cases t with | zero=>rfl | succ t=>exact ih ht
theorem wh {l:List Value} {t:Nat} (h:ly l t=true) (u:Value):nth (gJ l t u) t=u:=by
 induction l generalizing t with
 | nil=>cases h
 | cons x l ih=>cases t with | zero=>rfl | succ t=>exact ih h
theorem rz {l:List Value} {t t':Nat} (h:t'≠t) (u:Value):nth (gJ l t u) t'=nth l t':=by
 induction l generalizing t t' with
 | nil=>rfl
 | cons x l ih=>cases t with
  | zero=>cases t' with | zero=>exact absurd rfl h | succ t'=>rfl
  | succ t=>exact zeQ
theorem GL.alloc {t:TypeId} {z:Value} {cs:List GV} [hT:tz P t z] (hz:rK z.cells.toList=cs) (h:GL P m ops Q rest (bR fr d (.loc Γ.length 0)) (Γ++[.box t cs])):GL P m ops Q (⟨d,.alloc t,ty,pos,af,none⟩::rest) fr Γ:=fun B K β w l hm hI hF=>by
 refine WL.alloc (z:=z) fun b w' hn=>?_
 have bE:=hI.add (vs:=z.cells.toList) (cs:=cs) (E:=t) zgY (by rw [<-hz];exact bC.self);exact zcW
theorem GL.box {t:TypeId} {x:Operand} {cs:List GV} (hx:oS (bq fr x)=some cs) (h:GL P m ops Q rest (bR fr d (.loc Γ.length 0)) (Γ++[.box t cs])):GL P m ops Q (⟨d,.box t x,ty,pos,af,none⟩::rest) fr Γ:=fun B K β w l hm hI hF=>by
 obtain ⟨vs,I,G⟩:=(hF.ev x).cells hx
 refine WL.box rfl fun b w' hn=>?_
 rw [I] at hn;have bE:=hI.add hn G;exact zcW
def oset:List Ob->Nat->Ob->List Ob
 | [],_,_=>[]
 | _::l,0,x=>x::l
 | y::l,n+1,x=>y::oset l n x
theorem bQ (l:List Ob) (i:Nat) (x:Ob):oset l i x=l.set i x:=by
 induction l generalizing i with
 | nil=>rfl
 | cons y l ih=>cases i with | zero=>rfl | succ i=>simp [oset,ih]
theorem BQ:∀ (us:List Value) (vs:List Value) (o:Nat),yi vs.toArray o us=(pf vs o us).toArray
 | [],vs,o=>rfl
 | u::us,vs,o=>by rw [yi,pf,Fm];exact BQ us _ _
theorem GL.st {x y:Operand} {t:TypeId} {agg:Bool} {k:Nat} [hT:Ty P t agg k] {i o:Nat} {E:TypeId} {cs gs:List GV} (hx:bq fr x=.loc i o) (bH:Γ[i]?=some (.box E cs)) (hy:oS (bq fr y)=some gs) (hk:gs.length=k) (I:pP gs=true)
  (hl:Nat.ble (o+k) cs.length=true) (h:GL P m ops Q rest (bR fr d (.v undef)) (oset Γ i (.box E (sk cs o gs)))):GL P m ops Q (⟨d,.store t x y,ty,pos,af,none⟩::rest) fr Γ:=fun B K β w l hm hI hF=>by
 have hr:=hF.ev x;rw [hx] at hr;generalize hv:ev l x=v at hr
 cases hr with
 | loc _ _ b hb =>
  obtain ⟨b',vs,G,h3,h4,h5⟩:=hI.ob i _ bH;rw [hb] at G;cases G;obtain ⟨us,oX,qf⟩:=(hF.ev y).cells hy
  have lH:o+k<=cs.length:=by simpa using hl
  refine WL.st (t:=t) hv rfl h3 (by rw [oX];simpa [hk] using qf.1) (by rw [size_toArray,h4.1];exact lH) (by rw [oX];simpa using qf.pO I) fun w' hs=>?_
  rw [oX,List.toList_toArray,BQ] at hs;have bE:=hI.store bH hb hs (qf.pf o h4);rw [<-bQ] at bE;exact h B K β w' _ hm bE (hF.put d (.v _))
def chunk:Nat->Nat->List GV->List (List GV)
 | 0,_,_=>[]
 | n+1,k,gs=>gs.take k::chunk n k (gs.drop k)
theorem zE {k:Nat}:∀ (n:Nat) (gs:List GV),gs.length=n * k->(chunk n k gs).flatten=gs/\(chunk n k gs).length=n/\∀ r∈chunk n k gs,r.length=k/\∀ g∈r,g∈gs
 | 0,gs,h=>by
  have:gs=[]:=ig zgc;subst this;exact ⟨rfl,rfl,fun r hr=>by cases hr⟩
 | n+1,gs,h=>by
  have hk:k<=gs.length:=by rw [h,Nat.succ_mul];omega
  obtain ⟨I,G,h3⟩:=zE (k:=k) n (gs.drop k) (by rw [lE,h,Nat.succ_mul];omega);refine ⟨by rw [chunk,flatten_cons,I,List.take_append_drop],by rw [chunk,length_cons,G],fun r hr=>?_⟩;rw [chunk] at hr
  rcases fh hr with rfl | hr
  ·exact ⟨by simp [hk],fun g hg=>List.mem_of_mem_take hg⟩
  ·obtain ⟨h4,h5⟩:=h3 r hr;exact ⟨h4,fun g hg=>List.mem_of_mem_drop (h5 g hg)⟩
def zs:Nat->List Value->List GV
 | 0,_=>[]
 | n+1,z=>rK z++zs n z
theorem Ub {K:Fz} {β:Bt} {n k:Nat} {z:List Value} (hz:z.length=k) (hk:0 < k):bC K β ((List.range (n * k)).map fun j=>z.getD (j % k) undef) (zs n z):=by
 induction n with
 | zero=>simpa [zs] using bC.nil
 | succ n ih =>
  have he:(List.range ((n+1) * k)).map (fun j=>z.getD (j % k) undef)=(List.range k).map (fun j=>z.getD (j % k) undef)++(List.range (n * k)).map fun j=>z.getD (j % k) undef:=by
   rw [Nat.succ_mul,Nat.add_comm,List.range_add,l9,List.map_map]
   congr 1
   apply List.map_congr_left;intro j _;simp
  rw [he,zs];refine bC.app ?_ ih
  have:(List.range k).map (fun j=>z.getD (j % k) undef)=z:=by
   apply List.ext_getElem
   ·simp [hz]
   ·intro j I G;simp at I;simp [Nat.mod_eq_of_lt I,bV G]
  rw [this];exact bC.self
theorem GL.mkF {t e:TypeId} {k:Nat} {z:List Value} [hT:tu P t e k z] {n:Nat} {parts:List (Nat × Operand)} {cs:List GV} (hn:Nat.ble (n * k) 16777216=true) (hf:Cm (fun i=>some (i * k,k)) (zs n z) (parts.map fun x=>(x.1,bq fr x.2))=some cs)
  (hl:Nat.beq cs.length (n * k)=true) (hp:th cs=true) (h:GL P m ops Q rest (bR fr d (.sl k (chunk n k cs))) Γ):GL P m ops Q (⟨d,.buildSlice t n parts.toArray,ty,pos,af,none⟩::rest) fr Γ:=fun B K β w l hm hI hF=>by
 obtain ⟨us,I,G⟩:=zI hF parts _ _ cs (Ub (n:=n) hT.zl hT.pos) hf
 have lH:cs.length=n * k:=by simpa using hl
 refine WL.F8 zgY I fun b w' uk=>?_
 obtain ⟨hle,bE⟩:=hI.xE uk G (o8 hp);obtain ⟨c1,c2,c3⟩:=zE n cs lH;refine h B _ β w' _ hm bE ((hF.mono hle (eg.refl β)).put d ?_)
 have oD:kp k (chunk n k cs):=fun r hr=>⟨(c3 r hr).1,fun g hg=>o8 hp g ((c3 r hr).2 g hg)⟩
 have:=Rel.sl (K:=oc K b cs) (β:=β) b 0 n k (chunk n k cs) (fun i r hr=>⟨(oD r (bo hr)).1,fun j g hg=>by
  rw [dJ];exact yr (by have:=xh oD hr hg;rw [c1] at this;exact this)⟩) (by rw [c2];exact aI _)
 rw [c2] at this;exact this
theorem GL.S3 {t e:TypeId} {k:Nat} {z:List Value} [hT:tu P t e k z] {n:Nat} {parts:List (Nat × Operand)} {cs:List GV} (hn:Nat.ble (n * k) 16777216=true) (hf:Cm (fun i=>some (i * k,k)) (zs n z) (parts.map fun x=>(x.1,bq fr x.2))=some cs)
  (hl:Nat.beq cs.length (n * k)=true) (hp:th cs=true) (h:GL P m ops Q rest (bR fr d (.vec Γ.length n)) (Γ++[.vec e k 0 (chunk n k cs)])):GL P m ops Q (⟨d,.buildSlice t n parts.toArray,ty,pos,af,none⟩::rest) fr Γ:=fun B K β w l hm hI hF=>by
 obtain ⟨us,I,G⟩:=zI hF parts _ _ cs (Ub (n:=n) hT.zl hT.pos) hf
 have lH:cs.length=n * k:=by simpa using hl
 have yR:n * k<=16777216:=by simpa using hn
 have cx:n<=16777216:=jV (Nat.le_mul_of_pos_right n hT.pos) yR
 refine WL.F8 yR I fun b w' uk=>?_
 obtain ⟨c1,c2,c3⟩:=zE n cs lH
 have oD:kp k (chunk n k cs):=fun r hr=>⟨(c3 r hr).1,fun g hg=>o8 hp g ((c3 r hr).2 g hg)⟩
 have how:=jH.aaW uk (n:=n) (k:=k) (by rw [G.1,lH]) (by simp only [maxLen];omega);have bE:=hI.OC (x:=.slice (some ⟨b,0,none⟩) n n) (xs:=us) (rows:=chunk n k cs) uk.ext (by rw [c2];exact how.base (aS _)) (fun b' bG=>by cases bG;rw [uk.fresh];exact aI _) (by rw [c1];exact G) oD;refine h B K _ w' _ hm bE ((hF.mono (df.refl K) (kq (by rw [hI.out _ (aI _)];trivial))).put d ?_);exact .vec _ n _ n ⟨_,_,bI,by rw [c2];exact aI _,fun _=>rfl⟩
def VX (x:Operand) (t:Tmp):Bool :=
 match x with
 | .tmp t'=>!Nat.beq t' t
 | _=>true
theorem Z5 {l:List Value} {x:Operand} {t:Tmp} (h:VX x t=true) (u:Value):ev (put l (some t) u) x=ev l x:=by
 cases x with
 | tmp t'=>exact rz (fun e=>by subst e;simp [VX] at h) u
 | _=>rfl
theorem GL.push {x s:Operand} {t e k lG:Nat} {z:List Value} [hT:rR P t e k lG] [hZ:tu P t e k z] {d1:Tmp} {TG:TypeId} {KD:String} {Qy:Array Edge} {i n fz:Nat} {rows:List (List GV)} {gs:List GV}
  (hx:oS (bq fr x)=some gs) (hk:Nat.beq gs.length k=true) (I:pP gs=true) (hp:th gs=true) (hs:bq fr s=.vec i n) (hsd:VX s d1=true) (hd:ly fr d1=true) (bH:Γ[i]?=some (.vec e k fz rows)) (hn:rows.length=n)
  (hb:(n+1<=9223372036854775807/\(n+1) * lG<=140737488355328)/\k<=16777216)
  (h:GL P m ops Q rest (bR (bR fr (some d1) U) d (.vec i (n+1))) (oset Γ i (.vec e k fz (rows++[gs])))) :
  GL P m ops Q (⟨some d1,.buildSlice t 1 #[(0,x)],TG,KD,Qy,none⟩::⟨d,.call ⟨.builtin .append,#[s,.tmp d1],#[t,t]⟩,ty,pos,af,none⟩::rest) fr Γ:=fun B K β w l hm hI hF=>by
 subst hn;obtain ⟨us,oX,qf⟩:=(hF.ev x).cells hx;obtain ⟨h0,xs,o1,o2,o3,o4,o5,o6⟩:=hI.ob i _ bH;have wZ:=hF.ev s;rw [hs] at wZ
 have uo:ev l s=h0:=by
  generalize hv:ev l s=v at wZ
  cases wZ with
  | vec _ _ a c hh =>
   obtain ⟨h',m',e1,e2,e3⟩:=hh;rw [o1] at e1;cases e1;exact e3 rfl
 have Eu:=qh hF hd
 have fm:gs.length=k:=by simpa using hk
 refine WL.push (base:=0) (v:=h0) (vs:=us) (val:=ev l x) (xs:=xs) (n:=rows.length) rfl (fun u=>by rw [Z5 hsd];exact uo) (fun u=>wh Eu u) oX (by rw [qf.1,fm]) (qf.pO I) o2 hb.1.1 hb.1.2 hb.2 (aS _) ?_;intro u v' w' how lf sS yT
 obtain ⟨K',hK,nW,bE⟩:=hI.grow bH o1 ⟨o2,o3⟩ (news:=[gs]) (ns:=us) how lf sS (by simpa using qf) (fun r hr=>by simp at hr;subst hr;exact ⟨fm,o8 hp⟩) zf8 (fun b bG o v ho hv=>by
  rcases yT with h7 | h7
  ·exact h7.c hv (fun h=>h)
  ·have kR:o < xs.length:=by rw [o2.1];exact AA ho (ua k o6)
   obtain ⟨b2,c2,oU,_,_,mu⟩:=o2.cells.2 (by intro h0;rw [h0] at kR;simp at kR)
   have eM:b2=b:=by rw [oU] at bG;cases bG;rfl
   subst eM;have Hq:=mu o xs[o] (by simp [kR]);rw [gU,hv] at Hq;cases Hq;obtain ⟨b3,c3,RU,_,_,RR⟩:=how.cells.2 (by intro h0;have:xs=[]:=(List.append_eq_nil_iff.1 h0).1;rw [this] at kR;simp at kR)
   have wM:b3=b2:=by rw [RU,bG] at h7;cases h7;rfl
   subst wM
   rw [<-gU];exact RR o _ zg5)
 rw [<-bQ] at bE;refine h B K' _ w' _ hm bE (((hF.mono hK nW).put (some d1) (.U u)).put d ?_);obtain ⟨a,c,rfl⟩:=how.shape;exact .vec i _ a c ⟨_,_,bI,by simp,fun _=>rfl⟩
theorem Wk.Ga {t:Nat} {a:Option Addr} {c:Nat} (E k:Nat) (ht:dc fr t=.v (.slice none 0 0)):Wk m fr Γ (bX fr t (.vec Γ.length 0)) (Γ++[.vec E k 0 []]):=fun B K β w l hm hI hF=>by
 have cS:β Γ.length=.no:=hI.out _ (aI _);have bE:=hI.OC (w':=w) (E:=E) (k:=k) (x:=.slice none 0 0) (xs:=[]) (rows:=[]) (Ext.refl w) (jH.nil w 0 E k) (fun b hb=>by cases hb) bC.nil (fun r hr=>by cases hr);refine ⟨K,_,bE,?_⟩;have yL:=hF.mono (df.refl K) (kq (i:=Γ.length) (x:=.gr (.slice none 0 0) ([]:List (List GV)).length) zgG);have hv:nth l t=.slice none 0 0:=Rel.eJ (by rw [<-ht];exact hF.nth t)
 have hu:∀ (l:List Value) (t:Nat) (v:Value),nth l t=v->(∃ a n c,v=.slice a n c)->gJ l t v=l:=by
  intro l
  induction l with
  | nil=>intro t v _ _;rfl
  | cons x l ih =>
   intro t v I G
   cases t with
   | zero=>simp only [nth] at I;subst I;rfl
   | succ t=>simp only [nth] at I;simp only [gJ];rw [ih t v I G]
 have:=yL.gJ t (v:=.slice none 0 0) (g:=.vec Γ.length 0) (.vec _ 0 none 0 ⟨_,_,bI,aI _,fun _=>rfl⟩);rw [hu l t _ hv ⟨_,_,_,rfl⟩] at this;exact this
theorem D0 {l:List Value} {t:Nat} (h:ly l t=true):gJ l t (nth l t)=l:=by
 induction l generalizing t with
 | nil=>cases h
 | cons x l ih=>cases t with | zero=>rfl | succ t=>simp only [gJ,nth];rw [ih h]
theorem Wk.jY {t i n E k fz:Nat} {rows:List (List GV)} (ht:dc fr t=.vec i n) (lR:ly fr t=true) (bH:Γ[i]?=some (.vec E k fz rows)) (hn:rows.length=n):Wk m fr Γ (bX fr t (.sl k rows)) (oset Γ i (.vec E k n rows)):=fun B K β w l hm hI hF=>by
 subst hn;obtain ⟨h0,xs,o1,o2,o3,o4,o5,o6⟩:=hI.ob i _ bH;obtain ⟨K',hK,CY,bE⟩:=hI.jY bH;rw [<-bQ] at bE;refine ⟨K',β,bE,?_⟩;have hr:=hF.nth t;rw [ht] at hr
 have kj:Rel K' β (nth l t) (.sl k rows):=by
  generalize nth l t=v at hr
  cases hr with
  | vec _ _ a c hh =>
   obtain ⟨h',m',e1,e2,e3⟩:=hh;rw [o1] at e1;cases e1;have e4:=e3 rfl
   rcases o2.2 with ⟨e5,e6⟩ | ⟨g,cap,cu,e5,_,_,ui,_⟩
   ·have:rows=[]:=ig e6;subst this;exact .sl0 _ _ _
   ·rw [e5] at e4;cases e4;exact zb8
 have:=(hF.mono hK (eg.refl β)).gJ t kj;rw [D0 (qh hF lR)] at this;exact this
def oR (i:Nat) (cs:List GV):GV->GV
 | .loc j o=>match Nat.beq j i with
  | true=>.box cs o
  | false=>.loc j o
 | g=>match g.ok (other i) with
  | true=>g
  | false=>.U
theorem Rel.frz {K K':Fz} {β:Bt} {i b:Nat} {cs:List GV} {x:Value} {g:GV} (h:Rel K β x g) (hk:df K K') (hb:β i=.fix b) (hc:∀ (j:Nat) g,cs[j]?=some g->K' b j=some g):Rel K' (fi (other i) β) x (oR i cs g):=by
 have gen:∀ {g:GV},Rel K β x g->Rel K' (fi (other i) β) x (match g.ok (other i) with | true=>g | false=>.U):=by
  intro g h;split
  ·rename_i ho;exact (h.mono hk (eg.refl β)).res ho
  ·exact .U _
 cases g with
 | loc j o =>
  simp only [oR];split
  ·rename_i hj
   have hj:j=i:=by simpa using hj
   subst hj
   cases h with
   | loc _ _ b' bG =>
    rw [hb] at bG;cases bG;have:=Rel.box (K:=K') (β:=fi (other j) β) b 0 o cs (fun q g hg=>by rw [dJ];exact hc q g hg);rw [dJ] at this;exact this
  ·rename_i hj
   have hj:j≠i:=by intro e;subst e;simp at hj
   exact (h.mono hk (eg.refl β)).res (zc hj)
 | _=>exact gen h
def pH (i:Nat) (cs:List GV):List GV->List GV
 | []=>[]
 | g::gs=>oR i cs g::pH i cs gs
theorem Wk.freeze {i:Nat} {E:TypeId} {cs:List GV} (bH:Γ[i]?=some (.box E cs)) (hp:th cs=true) (cS:uu (other i) (oset Γ i .gone)=true) (hm:m<=i):Wk m fr Γ (pH i cs fr) (oset Γ i .gone):=fun B K β w l hB hI hF=>by
 rw [bQ] at cS |-;obtain ⟨b,vs,I,G,h3,h4⟩:=hI.ob i _ bH;obtain ⟨K',hK,CY,bE⟩:=hI.freeze bH (o8 hp) cS zgb;refine ⟨K',_,bE,?_⟩;clear hI bE cS bH
 induction hF with
 | nil=>exact .nil
 | cons h t ih=>exact .cons (h.frz hK I (CY b I)) ih
end
def cY:List Nat->Nat->Nat->Nat
 | [],n,j=>n+j
 | i::_,_,0=>i
 | _::r,n,j+1=>cY r n j
def fS:List Ob->List Nat->List Ob->List Ob
 | Γ,[],xs=>Γ++xs
 | Γ,_::_,[]=>Γ
 | Γ,i::r,x::xs=>fS (oset Γ i x) r xs
def lV:List Nat->Nat->Bool
 | [],_=>true
 | i::r,n=>Nat.blt i n&&!(r.contains i)&&lV r n
theorem Gh {aY:List Nat} {n j:Nat} (h:aY.length<=j):cY aY n j=n+(j - aY.length):=by
 induction aY generalizing j with
 | nil=>simp [cY]
 | cons i r ih =>
  cases j with
  | zero=>simp at h
  | succ j=>rw [cY,ih zgc];simp
theorem Ze {aY:List Nat} {n j:Nat} (h:j < aY.length):∃ i∈aY,cY aY n j=i:=by
 induction aY generalizing j with
 | nil=>simp at h
 | cons i r ih =>
  cases j with
  | zero=>exact ⟨i,by simp,rfl⟩
  | succ j=>obtain ⟨x,I,G⟩:=ih (j:=j) zgc;exact ⟨x,by simp [I],G⟩
theorem Ky {aY:List Nat} {n:Nat} (h:lV aY n=true):∀ i∈aY,i < n:=by
 induction aY with
 | nil=>intro i hi;cases hi
 | cons x r ih =>
  simp only [lV,aK] at h;intro i hi
  rcases fh hi with rfl | hi
  ·simpa using h.1.1
  ·exact ih h.2 i hi
theorem DX {aY:List Nat} {n:Nat} (h:lV aY n=true):∀ {j j':Nat},cY aY n j=cY aY n j'->j=j':=by
 induction aY with
 | nil=>intro j j' he;simp only [cY] at he;omega
 | cons x r ih =>
  have au:=Ky h;simp only [lV,aK,Bool.not_eq_true'] at h
  have hx:∀ j,cY r n j≠x:=fun j he=>by
   by_cases hj:j < r.length
   ·obtain ⟨i,hi,G⟩:=Ze (n:=n) hj;rw [he] at G;subst G;have:=h.1.2;rw [ea.2 hi] at this;cases this
   ·have:=Gh (n:=n) (Nat.le_of_not_lt hj);have:=au x zf8;omega
  intro j j' he
  cases j with
  | zero=>cases j' with
   | zero=>rfl
   | succ j'=>exact absurd he.symm (hx j')
  | succ j=>cases j' with
   | zero=>exact absurd he (hx j)
   | succ j'=>rw [ih h.2 he]
theorem Mh {aY:List Nat} {n:Nat}:∀ {Γ xs:List Ob},Γ.length=n->lV aY n=true->aY.length<=xs.length ->
  (∀ j,(fS Γ aY xs)[cY aY n j]?=xs[j]?)/\(∀ i,(∀ j,cY aY n j≠i)->(fS Γ aY xs)[i]?=Γ[i]?)/\(fS Γ aY xs).length=n+(xs.length - aY.length):=by
 induction aY with
 | nil =>
  intro Γ xs hn _ _;refine ⟨fun j=>?_,fun i hi=>?_,by simp [fS,hn]⟩
  ·simp only [fS,cY];rw [gR zgb];congr 1;omega
  ·simp only [fS,cY] at hi |-
   by_cases au:i < n
   ·rw [gm zgb]
   ·exact absurd zgb (hi (i - n))
 | cons x r ih =>
  intro Γ xs hn fA hl;have JO:=@DX (x::r) n fA;have au:=Ky fA x zf8
  cases xs with
  | nil=>simp at hl
  | cons y ys =>
   simp only [lV,aK,Bool.not_eq_true'] at fA;obtain ⟨I,G,h3⟩:=ih (Γ:=oset Γ x y) (xs:=ys) (by rw [bQ];simpa using hn) fA.2 zge
   have hx:∀ j,cY r n j≠x:=fun j he=>by
    have:=@JO (j+1) 0 he;omega
   refine ⟨fun j=>?_,fun i hi=>?_,by simp only [fS,h3,length_cons];omega⟩
   ·cases j with
    | zero =>
     simp only [fS,cY];rw [G x hx,bQ,fb];simp [hn,au]
    | succ j=>simp only [fS,cY];exact I j
   ·simp only [fS];rw [G i (fun j=>hi (j+1)),bQ,fb];rw [ab (by intro e;exact hi 0 e)]
theorem mz.EZ {K:Fz} {β:Bt} {w:World} {f:Nat->Nat} {j:Nat} {x:Ob} (h:mz K β w (f j) (x.fc f)):mz K (fun j=>β (f j)) w j x:=by
 cases x with
 | gone=>exact h
 | box E cs =>
  obtain ⟨b,vs,I,G,h3,h4⟩:=h;rw [nc] at h3;exact ⟨b,vs,I,G,⟨by simpa using h3.1,fun i v g h5 h6=>(h3.2 i v (fc f g) h5 (by rw [bp,h6];rfl)).EZ⟩,h4⟩
 | vec E k fz rows =>
  exact zcr
 | vech E k rows x =>
  exact zcy
 | lost=>exact h
 | blk b q=>exact h
 | blob q=>exact h
theorem mz.Fl {K:Fz} {β:Bt} {w:World} {f:Nat->Nat} {j:Nat} {x:Ob} (h:mz K (fun j=>β (f j)) w j x):mz K β w (f j) (x.fc f):=by
 cases x with
 | gone=>exact h
 | box E cs =>
  obtain ⟨b,vs,I,G,h3,h4⟩:=h;refine ⟨b,vs,I,G,?_,h4⟩;rw [nc];refine ⟨by simpa using h3.1,fun i v g h5 h6=>?_⟩;rw [bp] at h6
  cases hc:cs[i]? with
  | none=>rw [hc] at h6;cases h6
  | some c=>rw [hc] at h6;cases h6;exact (h3.2 i v c h5 hc).Fl
 | vec E k fz rows =>
  exact zcr
 | vech E k rows x =>
  exact zcy
 | lost=>exact h
 | blk b q=>exact h
 | blob q=>exact h
section
variable {K:Fz} {β:Bt} {Γ:List Ob} {w:World} {B:Bs}
theorem Inv.enter {aY:List Nat} {kx:List Ob} (h:Inv B K β Γ w) (fA:lV aY Γ.length=true) (hl:kx.length=aY.length) (bH:∀ j x,kx[j]?=some x->Γ[cY aY Γ.length j]?=some (x.fc (cY aY Γ.length))) :
  Inv (cur K (fun j=>β (cY aY Γ.length j)) kx w) K (fun j=>β (cY aY Γ.length j)) kx w:=by
 have cS:∀ i,kx.length<=i->β (cY aY Γ.length i)=.no:=fun i hi=>by
  rw [Gh zgb];exact h.out _ zgb
 exact ⟨Ext.refl w,df.refl K,eg.refl _,cS,h.fz,fun i x hi=>(h.ob _ _ (bH i x hi)).EZ,cS,fun i j b hi hj=>DX fA (h.dis _ _ b hi hj),fun i b hb=>.inl ⟨i,hb⟩,fun _ _ _ h=>.inl h,h.tab.step (S:=iI) (Ext.refl w) (fun _ h=>h.elim) (df.refl K) (fun i b2 G=>.inl ⟨_,G⟩)⟩
theorem Inv.leave {aY:List Nat} {kx uV:List Ob} {K':Fz} {D2:Bt} {w':World} (h:Inv B K β Γ w) (fA:lV aY Γ.length=true) (hl:kx.length=aY.length) (lH:aY.length<=uV.length)
  (hI:Inv (cur K (fun j=>β (cY aY Γ.length j)) kx w) K' D2 uV w') :
  ∃ b9,df K K'/\eg β b9/\(∀ j,b9 (cY aY Γ.length j)=D2 j)/\Inv B K' b9 (fS Γ aY (uV.map (Ob.fc (cY aY Γ.length)))) w':=by
 obtain ⟨s1,s2,s3⟩:=Mh (aY:=aY) (n:=Γ.length) (Γ:=Γ) (xs:=uV.map (Ob.fc (cY aY Γ.length))) rfl fA (by simpa using lH);rw [bM] at s3;generalize hf:cY aY Γ.length=f at *
 have JO:∀ {j j'},f j=f j'->j=j':=by subst hf;exact DX fA
 have kP:∀ j,aY.length<=j->f j=Γ.length+(j - aY.length):=fun j hj=>by subst hf;exact Gh hj
 have adj:∀ i,Γ.length<=i->f (aY.length+(i - Γ.length))=i:=fun i hi=>by rw [kP _ zgb];omega
 have ⟨b9,hβ1,hβ2⟩:∃ b9:Bt,(∀ j,b9 (f j)=D2 j)/\∀ i,(∀ j,f j≠i)->b9 i=β i:=by
  classical
  refine ⟨fun i=>if h:∃ j,f j=i then D2 (Classical.choose h) else β i,fun j=>?_,fun i hi=>?_⟩
  ·have hex:∃ j',f j'=f j:=⟨j,rfl⟩;simp only;rw [dif_pos hex,JO (Classical.choose_spec hex)]
  ·simp only;rw [dif_neg (fun ⟨j,hj⟩=>hi j hj)]
 have hBL:eg β b9:=fun i=>by
  by_cases hi:∃ j,f j=i
  ·obtain ⟨j,rfl⟩:=hi;rw [hβ1];exact hI.ble j
  ·rw [hβ2 i (fun j hj=>hi ⟨j,hj⟩)];exact vD.refl _
 have zR:∀ b,blocks (fun j=>β (f j)) b->blocks β b:=fun b ⟨j,hj⟩=>⟨f j,hj⟩
 have gT:∀ i b,(b9 i).has b->blocks β b\/w.heap.size<=b:=fun i b hb=>by
  by_cases hi:∃ j,f j=i
  ·obtain ⟨j,rfl⟩:=hi;rw [hβ1] at hb;exact (hI.own j b hb).imp (zR b) id
  ·rw [hβ2 i (fun j hj=>hi ⟨j,hj⟩)] at hb;exact .inl ⟨i,hb⟩
 have vo:∀ i b,(∀ j,f j≠i)->(β i).has b->¬ blocks (fun j=>β (f j)) b:=fun i b hi hb ⟨j,hj⟩=>hi j (h.dis _ _ b hj hb)
 refine ⟨b9,hI.kle,hBL,hβ1,h.Ti (Γ0:=Γ) ?_⟩;refine ⟨hI.ext.mono (fun k _ hk=>zR k hk),hI.kle,hBL,h.out,hI.fz,fun i x hi=>?_,fun i hi=>?_,fun i i' b hi rZ=>?_,gT,fun b o g hg=>?_,⟨hI.tab.le,hI.tab.pow,hI.tab.spc,fun i b hb=>(gT i b hb).elim (fun ⟨j,hj⟩=>h.tab.free j b hj) (fun hs=>⟨by have:=h.tab.pow.lt;have hs:w.heap.size<=b:=hs;omega,by have:=h.tab.spc.lt;have hs:w.heap.size<=b:=hs;omega⟩)⟩⟩
 ·by_cases hj:∃ j,f j=i
  ·obtain ⟨j,rfl⟩:=hj;rw [s1 j,bp] at hi
   cases hc:uV[j]? with
   | none=>rw [hc] at hi;cases hi
   | some c =>
    rw [hc] at hi;cases hi;refine mz.Fl ?_;have:=hI.ob j c hc;rw [show (fun j=>b9 (f j))=D2 from funext hβ1];exact this
  ·have oy:∀ j,f j≠i:=fun j h=>hj ⟨j,h⟩
   rw [s2 i oy] at hi;refine (h.ob i x hi).ext hI.ext (fun b hb=>vo i b oy hb) hI.kle hBL (hβ2 i oy) (fun b o hb hk=>?_)
   cases fm:K' b o with
   | none=>rfl
   | some g =>
    rcases hI.kn b o g fm with h7 | h7 | h7
    ·have h7:K b o=some g:=h7;rw [hk] at h7;cases h7
    ·exact absurd h7 (vo i b oy hb)
    ·have:=h.lt hb;have h7:w.heap.size<=b:=h7;omega
 ·rw [s3] at hi;have I:=adj i zgb;rw [<-I,hβ1];exact hI.out _ zgb
 ·by_cases I:∃ j,f j=i <;> by_cases G:∃ j,f j=i'
  ·obtain ⟨j,rfl⟩:=I;obtain ⟨j',rfl⟩:=G;rw [hβ1] at hi rZ;rw [hI.dis j j' b hi rZ]
  ·obtain ⟨j,rfl⟩:=I
   have sP:∀ j,f j≠i':=fun j h=>G ⟨j,h⟩
   rw [hβ1] at hi;rw [hβ2 i' sP] at rZ
   rcases hI.own j b hi with h7 | h7
   ·exact absurd h7 (vo i' b sP rZ)
   ·have:=h.lt rZ;have h7:w.heap.size<=b:=h7;omega
  ·obtain ⟨j,rfl⟩:=G
   have dD:∀ j,f j≠i:=fun j h=>I ⟨j,h⟩
   rw [hβ1] at rZ;rw [hβ2 i dD] at hi
   rcases hI.own j b rZ with h7 | h7
   ·exact absurd h7 (vo i b dD hi)
   ·have:=h.lt hi;have h7:w.heap.size<=b:=h7;omega
  ·rw [hβ2 i (fun j h=>I ⟨j,h⟩)] at hi;rw [hβ2 i' (fun j h=>G ⟨j,h⟩)] at rZ;exact h.dis i i' b hi rZ
 ·rcases hI.kn b o g hg with h7 | h7 | h7
  ·exact .inl h7
  ·exact .inr (.inl (zR b h7))
  ·exact .inr (.inr h7)
end
section
variable {P:Program} {m:Nat} {Q:eC} {fr:List GV} {Γ:List Ob} {ops:Array Oper} {rest:List Oper} {d:Option Tmp} {op:Op} {ty:TypeId} {pos:String} {af:Array Edge}
def seen (f:Nat->Nat) (Γ:List Ob):List Nat->List Ob->Prop
 | [],[]=>True
 | i::r,x::xs=>Γ[i]?=some (x.fc f)/\seen f Γ r xs
 | _,_=>False
theorem HS {f:Nat->Nat} {Γ:List Ob} {n:Nat}:∀ {aY:List Nat} {kx:List Ob},seen f Γ aY kx->kx.length=aY.length/\∀ j x,kx[j]?=some x->Γ[cY aY n j]?=some (x.fc f)
 | [],[],_=>⟨rfl,fun j x h=>by simp at h⟩
 | i::r,y::ys,h=>by
  obtain ⟨I,G⟩:=h;obtain ⟨h3,h4⟩:=HS (n:=n) G;refine ⟨by simp [h3],fun j x hx=>?_⟩
  cases j with
  | zero=>cases hx;exact I
  | succ j=>exact h4 j x hx
 | [],_::_,h=>h.elim
 | _::_,[],h=>h.elim
theorem GL.calls {f:FuncId} {aY:List Nat} {gs:List GV} {kx:List Ob} {R:GV->List Ob->Prop} {vs:List Value->List Value} (hr:∀ K β w l,FR K β fr l->bC K β (vs l) (pb (cY aY Γ.length) gs)/\(execOp (ev l) ⟨d,op,ty,pos,af,none⟩).run P w=.ok (.enter f (vs l).toArray) w)
  (fA:lV aY Γ.length=true) (bH:seen (cY aY Γ.length) Γ aY kx) (hc:GC P f gs kx R)
  (h:∀ g aZ,R g aZ->aY.length<=aZ.length/\GL P m ops Q rest (bR fr d (fc (cY aY Γ.length) g)) (fS Γ aY (aZ.map (Ob.fc (cY aY Γ.length))))) :
  GL P m ops Q (⟨d,op,ty,pos,af,none⟩::rest) fr Γ:=fun B K β w l hm hI hF=>by
 obtain ⟨hl,hs⟩:=HS (n:=Γ.length) bH;obtain ⟨ha,hr⟩:=hr K β w l hF;have hIc:=hI.enter fA hl hs
 have zN:bC K (fun j=>β (cY aY Γ.length j)) (vs l) gs:=by
  rw [nc] at ha;exact ⟨by simpa using ha.1,fun i v g h5 h6=>(ha.2 i v (fc _ g) h5 (by rw [bp,h6];rfl)).EZ⟩
 refine WL.calls hr (hc _ K _ w _ rfl hIc zN) ?_;rintro v w' ⟨K',D2,g,aZ,bE,kj,hR⟩;obtain ⟨lH,h⟩:=h g aZ hR;obtain ⟨b9,hK,hB,nW,vj⟩:=hI.leave fA hl lH bE;refine h B K' b9 w' _ hm vj ((hF.mono hK hB).put d (Rel.Fl ?_));rw [show (fun j=>b9 (cY aY Γ.length j))=D2 from funext nW];exact kj
theorem GL.oB {f:FuncId} [hf:aO P f] (aY:List Nat) {x:Operand} {first cap:List GV} {args:List Operand} {rJ:Array TypeId} {gs:List GV} {kx:List Ob} {R:GV->List Ob->Prop} (hc:GC P f gs kx R) (hx:bq fr x=.fn (.func f) first cap) (ha:first++args.map (bq fr)++cap=pb (cY aY Γ.length) gs) (fA:lV aY Γ.length=true)
  (bH:seen (cY aY Γ.length) Γ aY kx) (h:∀ g aZ,R g aZ->aY.length<=aZ.length/\GL P m ops Q rest (bR fr d (fc (cY aY Γ.length) g)) (fS Γ aY (aZ.map (Ob.fc (cY aY Γ.length))))) :
  GL P m ops Q (⟨d,.call ⟨.value x,args.toArray,rJ⟩,ty,pos,af,none⟩::rest) fr Γ :=
 GL.calls (vs:=fun l=>match ev l x with | .func _ a c=>a.toList++args.map (ev l)++c.toList | _=>[]) (fun K β w l hF=>by
  have hr:=hF.ev x;rw [hx] at hr;generalize hv:ev l x=v at hr
  cases hr with
  | fn _ xs ys _ _ I G h3 h4 =>
   refine ⟨?_,?_⟩
   ·rw [<-ha];exact (bC.app (bC.app ⟨I,h3⟩ (hF.args args)) ⟨G,h4⟩)
   ·simp [execOp,resolve,hv,Deferred.ofValue,invoke,rh]) fA bH hc h
theorem GL.abG {f:FuncId} [hf:aO P f] (aY:List Nat) {x:Operand} {args:List Operand} {rJ:Array TypeId} {gs:List GV} {kx:List Ob} {R:GV->List Ob->Prop} (hc:GC P f gs kx R) (hx:bq fr x=.v (.func (.func f) #[] #[])) (ha:args.map (bq fr)=pb (cY aY Γ.length) gs) (fA:lV aY Γ.length=true)
  (bH:seen (cY aY Γ.length) Γ aY kx) (h:∀ g aZ,R g aZ->aY.length<=aZ.length/\GL P m ops Q rest (bR fr d (fc (cY aY Γ.length) g)) (fS Γ aY (aZ.map (Ob.fc (cY aY Γ.length))))) :
  GL P m ops Q (⟨d,.call ⟨.value x,args.toArray,rJ⟩,ty,pos,af,none⟩::rest) fr Γ :=
 GL.calls (vs:=fun l=>args.map (ev l)) (fun K β w l hF=>⟨by rw [<-ha];exact hF.args args,by
  have hv:=hF.lq hx
  simp [execOp,resolve,hv,Deferred.ofValue,invoke,rh]⟩) fA bH hc h
end
def qS (ops:List Oper) (fr:List GV):Nat->Option (Option Bool):=fun j =>
 match ly ops j,(vJ ops j).dst with
 | true,some t=>match ly fr t,dc fr t with
  | true,.v (.bool c)=>some (some c)
  | true,.v (.tuple _)=>some none
  | _,_=>none
 | _,_=>none
section
variable {P:Program} {m:Nat} {Q:eC} {fr:List GV} {Γ:List Ob} {ops:Array Oper} {rest:List Oper} {d:Option Tmp} {op:Op} {ty:TypeId} {pos:String} {af:Array Edge}
theorem yH {K:Fz} {β:Bt} {l:List Value} {j:Nat} {b:Bool} {c:Option Bool} (hF:FR K β fr l) (h:qS ops.toList fr j=some c):w7 (some (j,b)) ops.toList l=true/\gv ops.toList l (j,b)=c:=by
 unfold qS at h;split at h
 ·rename_i t I G;split at h
  ·rename_i c' h3 h4;cases h;have hv:nth l t=.bool c':=Rel.eJ (by rw [<-h4];exact hF.nth t);exact zdD
  ·rename_i vs h3 h4;cases h;have hv:nth l t=.tuple vs:=Rel.eJ (by rw [<-h4];exact hF.nth t);exact zdD
  ·cases h
 ·cases h
theorem GL.gt {gd:Nat × Bool} {c:Bool} (hv:qS ops.toList fr gd.1=some (some c)) (hc:c=gd.2) (h:GL P m ops Q (⟨d,op,ty,pos,af,none⟩::rest) fr Γ):GL P m ops Q (⟨d,op,ty,pos,af,some gd⟩::rest) fr Γ:=fun B K β w l hm hI hF=>by
 obtain ⟨I,G⟩:=yH (b:=gd.2) hF hv;exact Xw.GT I G hc (h B K β w l hm hI hF)
theorem GL.gf {gd:Nat × Bool} {c:Bool} (hv:qS ops.toList fr gd.1=some (some c)) (hc:c=!gd.2) (h:GL P m ops Q rest (bR fr d (.v undef)) Γ):GL P m ops Q (⟨d,op,ty,pos,af,some gd⟩::rest) fr Γ:=fun B K β w l hm hI hF=>by
 obtain ⟨I,G⟩:=yH (b:=gd.2) hF hv;exact Xw.GF I G hc (h B K β w _ hm hI (hF.put d (.v _)))
theorem GL.gu {gd:Nat × Bool} (hv:qS ops.toList fr gd.1=some none) (h:GL P m ops Q rest (bR fr d (.v undef)) Γ):GL P m ops Q (⟨d,op,ty,pos,af,some gd⟩::rest) fr Γ:=fun B K β w l hm hI hF=>by
 obtain ⟨I,G⟩:=yH (b:=gd.2) hF hv;exact Xw.GU I G (h B K β w _ hm hI (hF.put d (.v _)))
end
def gG (ops:List Oper) (fr:List GV):Option (Nat × Bool)->Option Bool
 | none=>some true
 | some (j,b)=>match qS ops fr j with
  | some (some c)=>some (c==b)
  | some none=>some false
  | none=>none
theorem MU {ops:Array Oper} {K:Fz} {β:Bt} {fr:List GV} {l:List Value} {o:Oper} {c:Bool} (hF:FR K β fr l) (h:gG ops.toList fr o.guard=some c):Region.wanted o (yielded ops (act l).tmps)=c:=by
 obtain ⟨d,op,ty,pos,af,gd⟩:=o
 cases gd with
 | none=>simp only [gG] at h;cases h;rfl
 | some gd =>
  obtain ⟨j,b⟩:=gd;simp only [gG] at h;split at h
  ·rename_i c' hc;cases h;obtain ⟨I,G⟩:=yH (b:=b) hF hc;rw [zr I]
   cases CV:(c'==b) with
   | true=>exact TS G (by simpa using CV)
   | false=>exact TR G (by cases c' <;> cases b <;> simp_all)
  ·rename_i hc;cases h;obtain ⟨I,G⟩:=yH (b:=b) hF hc;rw [zr I];exact TT G
  ·cases h
def HH (P:Program) (o:Oper) (e:Operand->Value) (w:World) (Kv:Value->World->Prop):Prop :=
 match (execOp e o).run P w with
 | .ok (.value v) w'=>Kv v w'
 | .ok .skip w'=>Kv undef w'
 | .ok (.enter f args) w'=>Calls P f args w' fun e XS=>∃ v,e=.returned v/\Kv v XS
 | .ok (.row row args) w'=>Rows P row args w' Kv
 | _=>False
theorem aaX {P:Program} {o:Oper} {a:Act} {w:World} {Kv:Value->World->Prop} {next:Act->World->Prop} {Q:Exit->Act->World->Prop} (h:HH P o a.eval w Kv) (hn:∀ v w',Kv v w'->next (a.put o.dst v) w'):o.wp P a w next Q:=by
 unfold HH at h;unfold Oper.wp;generalize (execOp a.eval o).run P w=r at *
 cases r with
 | ok n w' =>
  cases n <;> simp only [Oper.upon] at h |- <;> first
   | exact hn _ _ h
   | exact Calls.mono h (fun e XS ⟨v,he,hv⟩=>by subst he;exact hn _ _ hv)
   | exact Rows.mono h (fun _ _ hv=>hn _ _ hv)
   | exact h.elim
 | halt x w'=>exact h.elim
theorem abt {P:Program} {o:Oper} {a:Act} {w:World} {Kv:Value->World->Prop} {next:Act->World->Prop} {Q:Exit->Act->World->Prop} (h:o.wp P a w next Q) (hQ:∀ c a w,¬ Q (.panic c) a w) (hQ':∀ a w,¬ Q .outgrown a w) (hn:∀ v w',next (a.put o.dst v) w'->Kv v w')
  (hd:∀ d w',¬ next ({ a with defers:=d::a.defers }.put o.dst undef) w'):HH P o a.eval w Kv:=by
 unfold HH;unfold Oper.wp at h;generalize (execOp a.eval o).run P w=r at *
 cases r with
 | ok n w' =>
  cases n <;> simp only [Oper.upon] at h |- <;> first
   | exact hn _ _ h
   | exact Calls.mono h (fun e XS he=>by
     cases e with
     | returned v=>exact ⟨v,rfl,hn _ _ he⟩
     | panicked c=>exact (hQ _ _ _ he).elim
     | outgrown=>obtain ⟨a0,w0,hf⟩:=he;exact (hQ' _ _ hf).elim)
   | exact Rows.mono h (fun _ _ hv=>hn _ _ hv)
   | exact h.elim
   | exact absurd h (hd _ _)
 | halt x w' =>
  cases x <;> simp only [Oper.upon] at h
  exact (hQ _ _ _ h).elim
def dQ (ts:List Nat):Nat->List GV->List GV
 | _,[]=>[]
 | k,g::gs=>(match ts.contains k with | true=>g | false=>.U)::dQ ts (k+1) gs
theorem FR.mask {K:Fz} {β:Bt} {ts:List Nat} {fr:List GV} {l:List Value} (h:FR K β fr l):∀ k,FR K β (dQ ts k fr) l:=by
 induction h with
 | nil=>intro k;exact .nil
 | cons h t ih =>
  intro k;rw [dQ];split
  ·exact .cons h (ih _)
  ·exact .cons (.U _) (ih _)
theorem VH {ts:List Nat} {d:Option Tmp} {g:GV} (hd:∀ t,d=some t->t ∉ ts) (fr:List GV):dQ ts 0 (bR fr d g)=dQ ts 0 fr:=by
 cases d with
 | none=>rfl
 | some t =>
  have hd:=hd t rfl
  have gen:∀ (fr:List GV) (k t:Nat),k+t ∉ ts->dQ ts k (bX fr t g)=dQ ts k fr:=by
   intro fr
   induction fr with
   | nil=>intro k t _;rfl
   | cons x fr ih =>
    intro k t h
    cases t with
    | zero =>
     have hc:ts.contains k=false:=by
      cases hb:ts.contains k with
      | false=>rfl
      | true=>exact absurd (ea.1 hb) zgc
     simp only [bX,dQ,hc]
    | succ t=>simp only [bX,dQ];rw [ih (k+1) t zg8]
  exact gen fr 0 t (by simpa using hd)
section
variable {P:Program} {ops:Array Oper}
def YQ (P:Program) (ops:Array Oper) (i:Nat) (g:GV) (fr:List GV) (Γ:List Ob):Prop :=
 ∃ o c,ops[i]?=some o/\gG ops.toList (dQ (o.looksAt ops) 0 fr) o.guard=some c/\match c with
  | true=>YG P o.op (dQ (o.looksAt ops) 0 fr) Γ g
  | false=>g=.v undef
abbrev oa:=List (Nat × GV × List GV)
def GA (P:Program) (o:Oper) (Kt:GV->List Ob->Prop) (fr:List GV) (Γ:List Ob):Prop :=
 ∀ B K β w l,Inv B K β Γ w->FR K β fr l->HH P o (ev l) w fun v w'=>∃ K' b9 g aZ,df K K'/\eg β b9/\Inv B K' b9 aZ w'/\(∀ fr l,FR K' b9 fr l->FR K' b9 (bR fr o.dst g) (put l o.dst v))/\Kt g aZ
def GI (P:Program) (ops:Array Oper) (i:Nat) (Kt:GV->List Ob->Prop) (fr:List GV) (Γ:List Ob):Prop :=
 ∃ o c,ops[i]?=some o/\gG ops.toList fr o.guard=some c/\match c with
  | true=>GA P o Kt fr Γ
  | false=>Kt (.v undef) Γ
def og (ops:Array Oper) (i:Nat):Option Tmp:=(ops[i]?).bind (·.dst)
def waits (ops:Array Oper) (i j:Nat):Bool:=match ops[i]? with
 | some o=>o.after.any fun e=>Region.binds .any e&&e.on==j
 | none=>false
def stay (ops:Array Oper) (i:Nat) (bs:oa):oa:=bs.filter fun p=>!waits ops i p.1
def tt (P:Program) (ops:Array Oper) (Q:List GV->List Ob->Prop):Nat->oa->Array Bool->List GV->List Ob->Prop
 | 0,_,listed,fr,Γ=>Region.ready .any ops listed=[]/\Q fr Γ
 | n+1,bs,listed,fr,Γ=>(Region.ready .any ops listed=[]->Q fr Γ) /\
   ∀ i∈Region.ready .any ops listed,GI P ops i (fun g aZ=>(∀ p∈stay ops i bs,YQ P ops p.1 p.2.1 p.2.2 aZ)/\tt P ops Q n (stay ops i bs) (listed.setIfInBounds i true) (bR fr (og ops i) g) aZ) fr Γ
theorem GA.mono {o:Oper} {Kt IH:GV->List Ob->Prop} {fr:List GV} {Γ:List Ob} (h:GA P o Kt fr Γ) (hk:∀ g aZ,Kt g aZ->IH g aZ):GA P o IH fr Γ:=fun B K β w l hI hF=>by
 have:=h B K β w l hI hF;unfold HH at *;generalize (execOp (ev l) o).run P w=r at *
 have key:∀ v w',(∃ K' b9 g aZ,df K K'/\eg β b9/\Inv B K' b9 aZ w'/\(∀ fr l,FR K' b9 fr l->FR K' b9 (bR fr o.dst g) (put l o.dst v))/\Kt g aZ)->∃ K' b9 g aZ,df K K'/\eg β b9/\Inv B K' b9 aZ w'/\(∀ fr l,FR K' b9 fr l->FR K' b9 (bR fr o.dst g) (put l o.dst v))/\IH g aZ :=
  fun v w' ⟨K',b9,g,aZ,I,G,h3,h4,h5⟩=>⟨K',b9,g,aZ,I,G,h3,h4,hk _ _ h5⟩
 cases r with
 | ok n w'=>cases n <;> simp only at this |- <;> first
   | exact key _ _ this
   | exact Calls.mono this (fun e XS ⟨v,he,hv⟩=>⟨v,he,key _ _ hv⟩)
   | exact Rows.mono this (fun _ _ hv=>key _ _ hv)
   | exact this.elim
 | halt x w'=>exact this.elim
theorem GI.mono {i:Nat} {Kt IH:GV->List Ob->Prop} {fr:List GV} {Γ:List Ob} (h:GI P ops i Kt fr Γ) (hk:∀ g aZ,Kt g aZ->IH g aZ):GI P ops i IH fr Γ:=by
 obtain ⟨o,c,I,G,h3⟩:=h;refine ⟨o,c,I,G,?_⟩
 cases c with
 | true=>exact GA.mono h3 hk
 | false=>exact hk _ _ h3
theorem tt.WD {Q:List GV->List Ob->Prop}:∀ (n:Nat) (bs eZ:oa) (listed:Array Bool) (fr:List GV) (Γ:List Ob),(∀ p∈eZ,p∈bs)->tt P ops Q n bs listed fr Γ->tt P ops Q n eZ listed fr Γ
 | 0,_,_,_,_,_,_,h=>h
 | n+1,bs,eZ,listed,fr,Γ,hs,h=>⟨h.1,fun i hi=>(h.2 i hi).mono fun g aZ ⟨I,G⟩=>by
  have pA:∀ p∈stay ops i eZ,p∈stay ops i bs:=fun p hp=>by
   simp only [stay,mem_filter] at hp |-;exact ⟨hs p hp.1,hp.2⟩
  exact ⟨fun p hp=>I p (pA p hp),tt.WD n _ _ _ _ _ pA G⟩⟩
theorem tt.sound {m:Nat} {Q:List GV->List Ob->Prop} {B:Bs} {Q':eC} (hm:B.m=m) (hQ:∀ fr Γ,Q fr Γ->Q' .normal fr Γ):∀ (n:Nat) (bs:oa) (listed:Array Bool) (fr:List GV) (Γ:List Ob) (K:Fz) (β:Bt) (w:World) (l:List Value),
  tt P ops Q n bs listed fr Γ->Inv B K β Γ w->FR K β fr l->wpAny P .any ops (lift (gl B Q')) n listed (act l) w
 | 0,_,_,fr,Γ,K,β,w,l,h,hI,hF=>⟨h.1,l,rfl,K,β,fr,Γ,hI,hF,hQ _ _ h.2⟩
 | n+1,bs,listed,fr,Γ,K,β,w,l,h,hI,hF=>by
  refine ⟨fun h0=>⟨l,rfl,K,β,fr,Γ,hI,hF,hQ _ _ (h.1 h0)⟩,fun i hi=>?_⟩;obtain ⟨o,c,ho,hg,hc⟩:=h.2 i hi;have hw:=MU hF hg;unfold wpOp;simp only [ho,hw]
  have hd:og ops i=o.dst:=by simp [og,ho]
  cases c with
  | true =>
   simp only [if_true];refine .inl (aaX (by rw [qN];exact hc B K β w l hI hF) ?_);rintro v w' ⟨K',b9,g,aZ,hK,hB,bE,hf,I,G⟩;rw [sJ];rw [hd] at G;exact tt.sound hm hQ n _ _ _ _ K' b9 w' _ G bE (hf _ _ (hF.mono hK hB))
  | false =>
   simp only [Bool.false_eq_true,if_false];rw [sJ];obtain ⟨I,G⟩:=hc;rw [hd] at G;exact tt.sound hm hQ n _ _ _ _ K β w _ G hI (hF.put o.dst (.v _))
theorem LQ {fr:List GV} {t t':Nat} (h:t'≠t) (g:GV):dc (bX fr t g) t'=dc fr t':=by
 induction fr generalizing t t' with
 | nil=>rfl
 | cons x l ih=>cases t with
  | zero=>cases t' with | zero=>exact absurd rfl h | succ t'=>rfl
  | succ t=>exact zeQ
theorem Nt {fr:List GV} {t t':Nat} {g:GV}:ly (bX fr t g) t'=ly fr t':=by
 induction fr generalizing t t' with
 | nil=>rfl
 | cons x l ih=>cases t with
  | zero=>cases t' <;> rfl
  | succ t=>cases t' with | zero=>rfl | succ t'=>exact ih
theorem aag {o:Oper} {fr:List GV} {d:Option Tmp} {g:GV} (h:∀ t,d=some t->t ∉ o.looksAt ops):gG ops.toList (bR fr d g) o.guard=gG ops.toList fr o.guard:=by
 cases d with
 | none=>rfl
 | some t =>
  have h:=h t rfl;obtain ⟨d',op,ty,pos,af,gd⟩:=o
  cases gd with
  | none=>rfl
  | some gd =>
   obtain ⟨j,b⟩:=gd
   have cj:∀ t',ly ops.toList j=true->(vJ ops.toList j).dst=some t'->t'≠t:=fun t' hj Bw he=>by
    subst he;apply h;have oy:=NL ops.toList j (EK hj);simp only [Array.toArray_toList] at oy;simp [Oper.looksAt,oy,Bw]
   have hv:qS ops.toList (bX fr t g) j=qS ops.toList fr j:=by
    unfold qS
    cases lR:ly ops.toList j with
    | false=>rfl
    | true =>
     cases hd:(vJ ops.toList j).dst with
     | none=>rfl
     | some t' =>
      simp only;rw [Nt,LQ (cj t' lR hd)]
   simp only [gG,bR,hv]
theorem YQ.at {i:Nat} {g:GV} {fr:List GV} {Γ:List Ob} {o:Oper} (h:YQ P ops i g fr Γ) (ho:ops[i]?=some o) {B:Bs} {K:Fz} {β:Bt} {w:World} {l:List Value} (hI:Inv B K β Γ w) (hF:FR K β fr l):∃ v,Rel K β v g/\((Region.wanted o (yielded ops (act l).tmps)=true/\(execOp (ev l) o).run P w=.ok (.value v) w)\/(Region.wanted o (yielded ops (act l).tmps)=false/\v=undef)):=by
 obtain ⟨o',c,I,G,h3⟩:=h;rw [ho] at I;cases I;have hw:=MU (hF.mask (ts:=o.looksAt ops) 0) G
 cases c with
 | true =>
  obtain ⟨v,hr,hv⟩:=h3 B K β w l hI (hF.mask 0);exact ⟨v,hv,.inl ⟨hw,by obtain ⟨d,op,ty,pos,af,gd⟩:=o;exact hr d ty pos af⟩⟩
 | false=>subst h3;exact ⟨undef,.v _,.inr ⟨hw,rfl⟩⟩
theorem GI.comm {i j:Nat} {g:GV} {oi oj:Oper} {Kt:GV->List Ob->Prop} {fr:List GV} {Γ:List Ob} (hi:ops[i]?=some oi) (hj:ops[j]?=some oj) (WV:oi.apart ops oj=true) (hsj:∀ cs b,oj.op≠.select cs b) (hy:YQ P ops i g fr Γ)
  (h:GI P ops j Kt (bR fr oi.dst g) Γ):GI P ops j Kt fr Γ:=by
 obtain ⟨a1,a2,a3⟩:=Oper.apart_spec WV;obtain ⟨o,c,I,G,h3⟩:=h;rw [hj] at I;cases I;rw [aag a1] at G;refine ⟨oj,c,hj,G,?_⟩
 cases c with
 | false=>exact h3
 | true =>
  intro B K β w l hI hF;obtain ⟨v,hv,_⟩:=hy.at hi hI hF;have:=h3 B K β w (put l oi.dst v) hI (hF.put _ hv)
  have he:execOp (ev (put l oi.dst v)) oj=execOp (ev l) oj:=by
   have:=execOp_put oj hsj (act l) oi.dst v a1;rw [sJ,qN,qN] at this;exact this
  unfold HH at this |-;rw [he] at this;exact this
theorem tt.first {Q:List GV->List Ob->Prop} {i:Nat} {oi:Oper} {g:GV} {rX:List GV} (hi:ops[i]?=some oi) (JY:∀ (j:Nat) (o:Oper) cs b,ops[j]?=some o->o.op≠.select cs b) :
  ∀ (n:Nat) (bs:oa) (listed:Array Bool) (fr:List GV) (Γ:List Ob),
   (∀ j oj,ops[j]?=some oj->j≠i->listed.getD j true=false->(∀ e∈oj.after,Region.binds .any e=true->e.on≠i)->oi.apart ops oj=true) ->
   i∈Region.ready .any ops listed->dQ (oi.looksAt ops) 0 fr=dQ (oi.looksAt ops) 0 rX->YQ P ops i g rX Γ->(∀ p∈bs,YQ P ops p.1 p.2.1 p.2.2 Γ) ->
   tt P ops Q n ((i,g,rX)::bs) (listed.setIfInBounds i true) (bR fr oi.dst g) Γ->tt P ops Q (n+1) bs listed fr Γ:=by
 have hd:og ops i=oi.dst:=by simp [og,hi]
 have abo:∀ {fr:List GV} {Γ:List Ob},dQ (oi.looksAt ops) 0 fr=dQ (oi.looksAt ops) 0 rX->YQ P ops i g rX Γ->YQ P ops i g fr Γ:=by
  rintro fr Γ hm ⟨o,c,I,G,h3⟩;rw [hi] at I;cases I;exact ⟨oi,c,hi,by rw [hm];exact G,by rw [hm];exact h3⟩
 have self:∀ (n:Nat) (bs:oa) (listed:Array Bool) (fr:List GV) (Γ:List Ob),dQ (oi.looksAt ops) 0 fr=dQ (oi.looksAt ops) 0 rX->YQ P ops i g rX Γ->(∀ p∈bs,YQ P ops p.1 p.2.1 p.2.2 Γ) ->
   tt P ops Q n ((i,g,rX)::bs) (listed.setIfInBounds i true) (bR fr oi.dst g) Γ ->
   GI P ops i (fun g aZ=>(∀ p∈stay ops i bs,YQ P ops p.1 p.2.1 p.2.2 aZ)/\tt P ops Q n (stay ops i bs) (listed.setIfInBounds i true) (bR fr (og ops i) g) aZ) fr Γ:=by
  intro n bs listed fr Γ wU hy hp H
  have b6:∀ p∈stay ops i bs,p∈bs:=fun p hp=>by simp only [stay,mem_filter] at hp;exact hp.1
  have H':tt P ops Q n (stay ops i bs) (listed.setIfInBounds i true) (bR fr (og ops i) g) Γ:=by
   rw [hd];exact tt.WD n _ _ _ _ _ (fun p hp=>dK _ (b6 p hp)) H
  obtain ⟨o,c,I,G,h3⟩:=abo wU hy;rw [hi] at I;cases I
  have sP:gG ops.toList fr oi.guard=some c:=by
   obtain ⟨d',op,ty,pos,af,gd⟩:=oi
   cases gd with
   | none=>exact G
   | some gd =>
    obtain ⟨j,b⟩:=gd;simp only [gG] at G |-
    have hv:∀ x,qS ops.toList (dQ (Oper.looksAt ops ⟨d',op,ty,pos,af,some (j,b)⟩) 0 fr) j=some x->qS ops.toList fr j=some x:=by
     intro x hx;unfold qS at hx |-
     cases lR:ly ops.toList j with
     | false=>rw [lR] at hx;cases hx
     | true =>
      rw [lR] at hx
      cases hdt:(vJ ops.toList j).dst with
      | none=>rw [hdt] at hx;cases hx
      | some t =>
       rw [hdt] at hx;simp only at hx |-
       have ue:∀ (ts:List Nat) (fr:List GV) (k t:Nat),ly (dQ ts k fr) t=ly fr t:=by
        intro ts fr
        induction fr with
        | nil=>intro k t;rfl
        | cons x fr ih=>intro k t;cases t with | zero=>rfl | succ t=>exact ih (k+1) t
       have Ex:∀ (ts:List Nat) (fr:List GV) (k t:Nat) ,dc (dQ ts k fr) t=dc fr t\/dc (dQ ts k fr) t=.U:=by
        intro ts fr
        induction fr with
        | nil=>intro k t;exact .inl rfl
        | cons x fr ih =>
         intro k t
         cases t with
         | zero=>simp only [dQ,dc];split <;> first | exact .inl rfl | exact .inr rfl
         | succ t=>exact ih (k+1) t
       rw [ue] at hx
       rcases Ex (Oper.looksAt ops ⟨d',op,ty,pos,af,some (j,b)⟩) fr 0 t with h | h
       ·rw [h] at hx;exact hx
       ·rw [h] at hx
        split at hx <;> first | (rename_i h5;cases h5;done) | cases hx
    split at G
    ·rename_i c' hc;rw [hv _ hc];exact G
    ·rename_i hc;rw [hv _ hc];exact G
    ·cases G
  refine ⟨oi,c,hi,sP,?_⟩
  have mH:∀ p∈stay ops i bs,YQ P ops p.1 p.2.1 p.2.2 Γ:=fun p hq=>hp p (b6 p hq)
  cases c with
  | true =>
   intro B K β w l hI hF;obtain ⟨v,hr,hv⟩:=h3 B K β w l hI (hF.mask 0)
   have qy:(execOp (ev l) oi).run P w=.ok (.value v) w:=by obtain ⟨d,op,ty,pos,af,gd⟩:=oi;exact hr d ty pos af
   unfold HH;rw [qy];exact ⟨K,β,g,Γ,df.refl K,eg.refl β,hI,fun fr l hf=>hf.put _ hv,mH,H'⟩
  | false =>
   simp only at h3;subst h3;exact ⟨mH,H'⟩
 intro n
 induction n with
 | zero =>
  intro bs listed fr Γ _ hr wU hy hp H;refine ⟨fun h=>(by rw [h] at hr;cases hr),fun j hj=>?_⟩
  by_cases lS:j=i
  ·subst lS;exact self 0 bs listed fr Γ wU hy hp H
  ·have:=ready_mono hj lS;rw [H.1] at this;cases this
 | succ n ih =>
  intro bs listed fr Γ WZ hr wU hy hp H;refine ⟨fun h=>(by rw [h] at hr;cases hr),fun j hj=>?_⟩
  by_cases lS:j=i
  ·subst lS;exact self (n+1) bs listed fr Γ wU hy hp H
  ·have I:=H.2 j (ready_mono hj lS);obtain ⟨aav,oj,R7,bj⟩:=mem_ready.1 hj
   have aaz:∀ e∈oj.after,Region.binds .any e=true->e.on≠i:=fun e he hb heq=>by
    have I:=bj e he hb;have h0:=(mem_ready.1 hr).1;rw [heq] at I
    rcases Nat.lt_or_ge i listed.size with h' | h'
    ·simp [h'] at h0 I;rw [h0] at I;cases I
    ·simp [Array.getElem?_eq_none h'] at I
   have WV:=WZ j oj R7 lS aav aaz;obtain ⟨a1,a2,a3⟩:=Oper.apart_spec WV
   have uk:waits ops j i=false:=by
    simp only [waits,R7];rw [Array.any_eq_false'];intro e he hb;simp only [aK,beq_iff_eq] at hb;exact aaz e he hb.1 hb.2
   have b6:stay ops j ((i,g,rX)::bs)=(i,g,rX)::stay ops j bs:=by
    simp [stay,List.filter_cons,uk]
   rw [b6] at I;have G:=GI.comm hi R7 WV (fun cs b=>JY j oj cs b R7) (abo wU hy) I
   have hdj:og ops j=oj.dst:=by simp [og,R7]
   have aau:∀ k ok,ops[k]?=some ok->k≠i->(listed.setIfInBounds j true).getD k true=false ->
     (∀ e∈ok.after,Region.binds .any e=true->e.on≠i)->oi.apart ops ok=true:=fun k ok hk dE hun cS=>by
    refine WZ k ok hk dE ?_ cS
    by_cases hjk:j=k
    ·subst hjk;exact aav
    ·rw [getD_set_ne true hjk] at hun;exact hun
   refine G.mono fun gj aZ ⟨h3,h4⟩=>⟨fun p hp=>h3 p (dK _ hp),?_⟩
   refine ih (stay ops j bs) (listed.setIfInBounds j true) (bR fr (og ops j) gj) aZ aau (ready_mono hr (Ne.symm lS)) ?_ (h3 (i,g,rX) (mem_cons_self)) (fun p hp=>h3 p (dK _ hp)) ?_
   ·rw [<-wU,hdj];exact VH a3 fr
   ·rw [Array.setIfInBounds_comm _ _ lS]
    have abW:bR (bR fr (og ops j) gj) oi.dst g=bR (bR fr oi.dst g) (og ops j) gj:=by
     rw [hdj]
     cases hdi:oi.dst with
     | none=>rfl
     | some t =>
      cases hdj':oj.dst with
      | none=>rfl
      | some u =>
       have cj:t≠u:=fun e=>a2 t hdi (by rw [hdj',e])
       have gen:∀ (fr:List GV) (t u:Nat),t≠u->bX (bX fr u gj) t g=bX (bX fr t g) u gj:=by
        intro fr
        induction fr with
        | nil=>intro t u _;rfl
        | cons x fr ih =>
         intro t u h
         cases t with
         | zero=>cases u with | zero=>exact absurd rfl h | succ u=>rfl
         | succ t=>cases u with | zero=>rfl | succ u=>simp only [bX];rw [ih t u (fun e=>h (by rw [e]))]
       exact gen fr t u cj
    rw [abW];exact h4
inductive Ot where
 | nil
 | q (i:Nat) (r:Ot)
 | a (i:Nat) (r:Ot)
 | f (i:Nat) (r:Ot) (j:Nat) (s:Ot)
def Ot.len:Ot->Nat
 | .nil=>0
 | .q _ r=>r.len+1
 | .a _ r=>r.len+1
 | .f _ r _ _=>r.len+1
def xe (ops:Array Oper):Ot->Array Bool->Bool
 | .nil,listed=>(Region.ready .any ops listed).isEmpty
 | .q i r,listed=>(Region.ready .any ops listed).contains i&&Region.free .any ops listed i&&xe ops r (listed.setIfInBounds i true)
 | .a i r,listed=>(Region.ready .any ops listed==[i])&&xe ops r (listed.setIfInBounds i true)
 | .f i r j s,listed=>(Region.ready .any ops listed==[i,j])&&xe ops r (listed.setIfInBounds i true)&&xe ops s (listed.setIfInBounds j true)&&(r.len==s.len)
def GO (P:Program) (ops:Array Oper) (Q:List GV->List Ob->Prop):Ot->oa->List GV->List Ob->Prop
 | .nil,_,fr,Γ=>Q fr Γ
 | .q i r,bs,fr,Γ=>∃ g,YQ P ops i g fr Γ/\GO P ops Q r ((i,g,fr)::bs) (bR fr (og ops i) g) Γ
 | .a i r,bs,fr,Γ=>GI P ops i (fun g aZ=>(∀ p∈stay ops i bs,YQ P ops p.1 p.2.1 p.2.2 aZ)/\GO P ops Q r (stay ops i bs) (bR fr (og ops i) g) aZ) fr Γ
 | .f i r j s,bs,fr,Γ=>GI P ops i (fun g aZ=>(∀ p∈stay ops i bs,YQ P ops p.1 p.2.1 p.2.2 aZ)/\GO P ops Q r (stay ops i bs) (bR fr (og ops i) g) aZ) fr Γ/\GI P ops j (fun g aZ=>(∀ p∈stay ops j bs,YQ P ops p.1 p.2.1 p.2.2 aZ)/\GO P ops Q s (stay ops j bs) (bR fr (og ops j) g) aZ) fr Γ
theorem GO.fork {ops:Array Oper} {Q:List GV->List Ob->Prop} {i j:Nat} {r s:Ot} {bs:oa} {fr:List GV} {Γ:List Ob} (I:GO P ops Q (.a i r) bs fr Γ) (G:GO P ops Q (.a j s) bs fr Γ):GO P ops Q (.f i r j s) bs fr Γ:=⟨I,G⟩
theorem GO.all {ol:List Oper} {Q:List GV->List Ob->Prop} (hs:Region.noSelect ol.toArray=true):∀ (ord:Ot) (bs:oa) (listed:Array Bool) (fr:List GV) (Γ:List Ob),
  xe ol.toArray ord listed=true->(∀ p∈bs,YQ P ol.toArray p.1 p.2.1 p.2.2 Γ)->GO P ol.toArray Q ord bs fr Γ->tt P ol.toArray Q ord.len bs listed fr Γ
 | .nil,bs,listed,fr,Γ,ho,_,h=>⟨by simpa [xe] using ho,h⟩
 | .q i r,bs,listed,fr,Γ,ho,hp,h=>by
  simp only [xe,aK] at ho;obtain ⟨⟨hr,hf⟩,ho⟩:=ho;obtain ⟨g,hy,h⟩:=h
  have zS:i∈Region.ready .any ol.toArray listed:=by simpa using hr
  obtain ⟨_,o,hi,_⟩:=mem_ready.1 zS
  have hd:og ol.toArray i=o.dst:=by simp only [og,hi];rfl
  rw [hd] at h
  exact tt.first hi (Region.noSelect_spec hs) _ bs listed fr Γ (Region.free_spec hi hf) zS rfl hy hp (GO.all hs r _ _ _ _ ho (fun p mH=>by
   rcases fh mH with rfl | mH
   ·exact hy
   ·exact hp p mH) h)
 | .a i r,bs,listed,fr,Γ,ho,hp,h=>by
  simp only [xe,aK,beq_iff_eq] at ho;obtain ⟨hr,ho⟩:=ho;refine ⟨fun h0=>by rw [h0] at hr;simp at hr,fun j hj=>?_⟩;rw [hr,List.mem_singleton] at hj;subst hj
  exact GI.mono h fun g aZ ⟨I,G⟩=>⟨I,GO.all hs r _ _ _ _ ho I G⟩
 | .f i r j s,bs,listed,fr,Γ,ho,hp,h=>by
  simp only [xe,aK,beq_iff_eq] at ho;obtain ⟨⟨⟨hr,ho1⟩,ho2⟩,hl⟩:=ho;refine ⟨fun h0=>by rw [h0] at hr;simp at hr,fun k hk=>?_⟩;rw [hr] at hk;simp only [List.mem_cons,List.not_mem_nil,or_false] at hk
  rcases hk with rfl | rfl
  ·exact GI.mono h.1 fun g aZ ⟨I,G⟩=>⟨I,GO.all hs r _ _ _ _ ho1 I G⟩
  ·exact GI.mono h.2 fun g aZ ⟨I,G⟩=>⟨I,by
    have:=GO.all hs s _ _ _ _ ho2 I G
    rw [<-hl] at this;exact this⟩
theorem GW.draw {m id:Nat} {ol:List Oper} {Q:eC} {fr:List GV} {Γ:List Ob} (ord:Ot) (hm:P.follows .mixedOrders=true)
  (fA:(Region.noSelect ol.toArray&&(ord.len==ol.length)&&xe ol.toArray ord (Array.replicate ol.toArray.size false))=true)
  (h:GO P ol.toArray (Q .normal) ord [] fr Γ):GW P m (.region id ol.toArray true) Q fr Γ:=fun B K β w l hB hI hF=>by
 simp only [aK,beq_iff_eq] at fA;obtain ⟨⟨hs,hl⟩,ho⟩:=fA;refine wp_region_any hm ?_;have I:=GO.all hs ord [] _ fr Γ ho (fun p hp=>by cases hp) h;rw [hl] at I;have G:=tt.sound (Q':=Q) hB (fun fr Γ h=>h) _ _ _ _ _ K β w.drew l I (hI.same (Ext.drew w)) hF;simpa using G
end
def mC:List Oper->Nat->Option Oper
 | [],_=>none
 | o::_,0=>some o
 | _::r,n+1=>mC r n
theorem uB {ol:List Oper} {i:Nat} {o:Oper} (h:mC ol i=some o):ol.toArray[i]?=some o:=by
 have:∀ (ol:List Oper) (i:Nat),mC ol i=ol[i]?:=by
  intro ol
  induction ol with
  | nil=>intro i;rfl
  | cons x ol ih=>intro i;cases i with | zero=>rfl | succ i=>simpa [mC] using ih i
 rw [this] at h;simpa using h
section
variable {P:Program} {Q:List GV->List Ob->Prop} {ol:List Oper} {r:Ot} {bs:oa} {fr:List GV} {Γ:List Ob} {i:Nat} {g:GV} {d:Option Tmp} {op:Op} {ty:TypeId} {pos:String} {af:Array Edge} {gd:Nat × Bool}
theorem yE {o:Oper} (h:mC ol i=some o):og ol.toArray i=o.dst:=by simp only [og,uB h];rfl
theorem GO.more {ops:Array Oper}:∀ (r:Ot) (bs eZ:oa) (fr:List GV) (Γ:List Ob),(∀ p∈eZ,p∈bs\/∀ Γ,YQ P ops p.1 p.2.1 p.2.2 Γ)->GO P ops Q r bs fr Γ->GO P ops Q r eZ fr Γ
 | .nil,_,_,_,_,_,h=>h
 | .q i r,bs,eZ,fr,Γ,hs,⟨g,I,G⟩=>⟨g,I,GO.more r _ _ _ _ (fun p hp=>by
   rcases fh hp with rfl | hp
   ·exact .inl (mem_cons_self)
   ·exact (hs p hp).imp (dK _) id) G⟩
 | .a i r,bs,eZ,fr,Γ,hs,h=>GI.mono h fun g aZ ⟨I,G⟩=>by
   have pA:∀ p∈stay ops i eZ,p∈stay ops i bs\/∀ Γ,YQ P ops p.1 p.2.1 p.2.2 Γ:=fun p hp=>by
    exact zdU
   exact ⟨fun p hp=>(pA p hp).elim (I p) (fun h=>h aZ),GO.more r _ _ _ _ pA G⟩
 | .f i r j s,bs,eZ,fr,Γ,hs,h=>by
   have pA:∀ k,∀ p∈stay ops k eZ,p∈stay ops k bs\/∀ Γ,YQ P ops p.1 p.2.1 p.2.2 Γ:=fun k p hp=>by
    exact zdU
   exact ⟨GI.mono h.1 fun g aZ ⟨I,G⟩=>⟨fun p hp=>(pA i p hp).elim (I p) (fun h=>h aZ),GO.more r _ _ _ _ (pA i) G⟩,GI.mono h.2 fun g aZ ⟨I,G⟩=>⟨fun p hp=>(pA j p hp).elim (I p) (fun h=>h aZ),GO.more s _ _ _ _ (pA j) G⟩⟩
theorem GO.skip {ops:Array Oper} {x:Nat × GV × List GV} (hx:∀ Γ,YQ P ops x.1 x.2.1 x.2.2 Γ) (h:GO P ops Q r bs fr Γ):GO P ops Q r (x::bs) fr Γ:=by
 refine GO.more r bs _ fr Γ (fun p hp=>?_) h
 rcases fh hp with he | hp
 ·subst he;exact .inr hx
 ·exact .inl hp
theorem GO.yq {o:Oper} (hi:mC ol i=some o) (hy:YQ P ol.toArray i g fr Γ) (h:GO P ol.toArray Q r ((i,g,fr)::bs) (bR fr o.dst g) Γ):GO P ol.toArray Q (.q i r) bs fr Γ :=
 ⟨g,hy,by rw [yE hi];exact h⟩
theorem GO.yp {o:Oper} (hi:mC ol i=some o) (hy:∀ Γ,YQ P ol.toArray i g fr Γ) (h:GO P ol.toArray Q r bs (bR fr o.dst g) Γ):GO P ol.toArray Q (.q i r) bs fr Γ :=
 GO.yq hi (hy Γ) (GO.skip hy h)
theorem rN {c:Bool} {ops:List Oper} (hv:qS ops fr gd.1=some (some c)) (hc:c=gd.2):gG ops fr (some gd)=some true:=by
 exact zff
theorem sy {c:Bool} {ops:List Oper} (hv:qS ops fr gd.1=some (some c)) (hc:c=!gd.2):gG ops fr (some gd)=some false:=by
 exact zff
theorem aah {ops:List Oper} (hv:qS ops fr gd.1=some none):gG ops fr (some gd)=some false:=by
 obtain ⟨j,b⟩:=gd;simp only at hv;simp only [gG,hv]
theorem YQ.t {o:Oper} (hi:mC ol i=some o) (hg:gG ol (dQ (o.looksAt ol.toArray) 0 fr) o.guard=some true) (hy:YG P o.op (dQ (o.looksAt ol.toArray) 0 fr) Γ g):YQ P ol.toArray i g fr Γ:=⟨o,true,uB hi,hg,hy⟩
theorem YQ.f {o:Oper} (hi:mC ol i=some o) (hg:gG ol (dQ (o.looksAt ol.toArray) 0 fr) o.guard=some false):YQ P ol.toArray i (.v undef) fr Γ:=⟨o,false,uB hi,hg,rfl⟩
theorem OQ (hi:mC ol i=some ⟨d,op,ty,pos,af,none⟩) (hy:YG P op (dQ (Oper.looksAt ol.toArray ⟨d,op,ty,pos,af,none⟩) 0 fr) Γ g) (h:GO P ol.toArray Q r ((i,g,fr)::bs) (bR fr d g) Γ):GO P ol.toArray Q (.q i r) bs fr Γ :=
 GO.yq hi (YQ.t hi rfl hy) h
theorem OP (hi:mC ol i=some ⟨d,op,ty,pos,af,none⟩) (hy:∀ Γ,YG P op (dQ (Oper.looksAt ol.toArray ⟨d,op,ty,pos,af,none⟩) 0 fr) Γ g) (h:GO P ol.toArray Q r bs (bR fr d g) Γ):GO P ol.toArray Q (.q i r) bs fr Γ :=
 GO.yp hi (fun Γ=>YQ.t hi rfl (hy Γ)) h
theorem ZJ {c:Bool} (hi:mC ol i=some ⟨d,op,ty,pos,af,some gd⟩) (hv:qS ol (dQ (Oper.looksAt ol.toArray ⟨d,op,ty,pos,af,some gd⟩) 0 fr) gd.1=some (some c)) (hc:c=gd.2) (hy:YG P op (dQ (Oper.looksAt ol.toArray ⟨d,op,ty,pos,af,some gd⟩) 0 fr) Γ g)
  (h:GO P ol.toArray Q r ((i,g,fr)::bs) (bR fr d g) Γ):GO P ol.toArray Q (.q i r) bs fr Γ :=
 GO.yq hi (YQ.t hi (rN hv hc) hy) h
theorem OPt {c:Bool} (hi:mC ol i=some ⟨d,op,ty,pos,af,some gd⟩) (hv:qS ol (dQ (Oper.looksAt ol.toArray ⟨d,op,ty,pos,af,some gd⟩) 0 fr) gd.1=some (some c)) (hc:c=gd.2) (hy:∀ Γ,YG P op (dQ (Oper.looksAt ol.toArray ⟨d,op,ty,pos,af,some gd⟩) 0 fr) Γ g)
  (h:GO P ol.toArray Q r bs (bR fr d g) Γ):GO P ol.toArray Q (.q i r) bs fr Γ :=
 GO.yp hi (fun Γ=>YQ.t hi (rN hv hc) (hy Γ)) h
theorem ONf {c:Bool} (hi:mC ol i=some ⟨d,op,ty,pos,af,some gd⟩) (hv:qS ol (dQ (Oper.looksAt ol.toArray ⟨d,op,ty,pos,af,some gd⟩) 0 fr) gd.1=some (some c)) (hc:c=!gd.2) (h:GO P ol.toArray Q r bs (bR fr d (.v undef)) Γ):GO P ol.toArray Q (.q i r) bs fr Γ :=
 GO.yp hi (fun Γ=>YQ.f hi (sy hv hc)) h
theorem ONu (hi:mC ol i=some ⟨d,op,ty,pos,af,some gd⟩) (hv:qS ol (dQ (Oper.looksAt ol.toArray ⟨d,op,ty,pos,af,some gd⟩) 0 fr) gd.1=some none) (h:GO P ol.toArray Q r bs (bR fr d (.v undef)) Γ):GO P ol.toArray Q (.q i r) bs fr Γ :=
 GO.yp hi (fun Γ=>YQ.f hi (aah hv)) h
theorem NJ:∀ (fr:List GV) (ts:List Nat) (k t:Nat),k+t∈ts->dc (dQ ts k fr) t=dc fr t
 | [],_,_,_,_=>rfl
 | g::fr,ts,k,0,h=>by
  have hc:ts.contains k=true:=ea.2 zgc;simp only [dQ,hc,dc]
 | g::fr,ts,k,t+1,h=>by
  simp only [dQ,dc];exact NJ fr ts (k+1) t zg8
theorem y7 {o:Oper} {ops:Array Oper} {x:Operand} (h:x∈o.op.operands.toList):bq (dQ (o.looksAt ops) 0 fr) x=bq fr x:=by
 cases x with
 | tmp t =>
  refine NJ fr _ 0 t ?_;rw [dJ];refine List.mem_append_left _ (List.mem_filterMap.2 ⟨.tmp t,h,rfl⟩)
 | _=>rfl
theorem OPm {x:Operand} (hi:mC ol i=some ⟨d,.move x,ty,pos,af,none⟩) (h:GO P ol.toArray Q r bs (bR fr d (bq fr x)) Γ):GO P ol.toArray Q (.q i r) bs fr Γ :=
 OP hi (fun Γ=>by
  have:=YG.mv (P:=P) (x:=x) (Γ:=Γ) (fr:=dQ (Oper.looksAt ol.toArray ⟨d,.move x,ty,pos,af,none⟩) 0 fr)
  rw [y7 zgI] at this;exact this) h
theorem OPa {x:Operand} (hi:mC ol i=some ⟨d,.assign x,ty,pos,af,none⟩) (h:GO P ol.toArray Q r bs (bR fr d (bq fr x)) Γ):GO P ol.toArray Q (.q i r) bs fr Γ :=
 OP hi (fun Γ=>by
  have:=YG.mG (P:=P) (x:=x) (Γ:=Γ) (fr:=dQ (Oper.looksAt ol.toArray ⟨d,.assign x,ty,pos,af,none⟩) 0 fr)
  rw [y7 zgI] at this;exact this) h
theorem acS {x:Operand} {c:Bool} (hi:mC ol i=some ⟨d,.move x,ty,pos,af,some gd⟩) (hv:qS ol (dQ (Oper.looksAt ol.toArray ⟨d,.move x,ty,pos,af,some gd⟩) 0 fr) gd.1=some (some c)) (hc:c=gd.2) (h:GO P ol.toArray Q r bs (bR fr d (bq fr x)) Γ):GO P ol.toArray Q (.q i r) bs fr Γ :=
 OPt hi hv hc (fun Γ=>by
  have:=YG.mv (P:=P) (x:=x) (Γ:=Γ) (fr:=dQ (Oper.looksAt ol.toArray ⟨d,.move x,ty,pos,af,some gd⟩) 0 fr)
  rw [y7 zgI] at this;exact this) h
theorem acR {c a b:Operand} {t:Bool} (hi:mC ol i=some ⟨d,.pick c a b,ty,pos,af,none⟩) (hc:bq (dQ (Oper.looksAt ol.toArray ⟨d,.pick c a b,ty,pos,af,none⟩) 0 fr) c=.v (.bool t)) (ht:t=true) (h:GO P ol.toArray Q r bs (bR fr d (bq fr a)) Γ):GO P ol.toArray Q (.q i r) bs fr Γ :=
 OP hi (fun Γ=>by
  have:=YG.XI (P:=P) (Γ:=Γ) (a:=a) (b:=b) hc ht
  rw [y7 zgI] at this;exact this) h
theorem acQ {c a b:Operand} {t:Bool} (hi:mC ol i=some ⟨d,.pick c a b,ty,pos,af,none⟩) (hc:bq (dQ (Oper.looksAt ol.toArray ⟨d,.pick c a b,ty,pos,af,none⟩) 0 fr) c=.v (.bool t)) (ht:t=false) (h:GO P ol.toArray Q r bs (bR fr d (bq fr b)) Γ):GO P ol.toArray Q (.q i r) bs fr Γ :=
 OP hi (fun Γ=>by
  have:=YG.XH (P:=P) (Γ:=Γ) (a:=a) (b:=b) hc ht
  rw [y7 zgI] at this;exact this) h
inductive di (P:Program) (ops:Array Oper) (i:Nat) (aZ:List Ob):oa->oa->Prop
 | n:di P ops i aZ [] []
 | w {j:Nat} {g:GV} {rX:List GV} {bs eZ:oa} (hw:waits ops i j=true) (h:di P ops i aZ bs eZ):di P ops i aZ ((j,g,rX)::bs) eZ
 | y {j:Nat} {g:GV} {rX:List GV} {bs eZ:oa} (hy:YQ P ops j g rX aZ) (h:di P ops i aZ bs eZ):di P ops i aZ ((j,g,rX)::bs) ((j,g,rX)::eZ)
theorem xU {ops:Array Oper} {q p:Nat × GV × List GV} (h:p∈stay ops i (q::bs)):(p=q/\waits ops i q.1=false)\/p∈stay ops i bs:=by
 simp only [stay,mem_filter] at h |-
 rcases fh h.1 with he | mH
 ·subst he;exact .inl ⟨rfl,by simpa using h.2⟩
 ·exact .inr ⟨mH,h.2⟩
theorem di.spec {ops:Array Oper} {aZ:List Ob} {eZ:oa} (h:di P ops i aZ bs eZ):(∀ p∈stay ops i bs,YQ P ops p.1 p.2.1 p.2.2 aZ)/\∀ p∈stay ops i bs,p∈eZ:=by
 induction h with
 | n=>exact ⟨fun p hp=>(by cases hp),fun p hp=>(by cases hp)⟩
 | w hw h ih =>
  refine ⟨fun p hp=>?_,fun p hp=>?_⟩
  ·rcases xU hp with ⟨_,G⟩ | mH
   ·simp only at G;rw [hw] at G;cases G
   ·exact ih.1 p mH
  ·rcases xU hp with ⟨_,G⟩ | mH
   ·simp only at G;rw [hw] at G;cases G
   ·exact ih.2 p mH
 | y hy h ih =>
  refine ⟨fun p hp=>?_,fun p hp=>?_⟩
  ·rcases xU hp with ⟨he,_⟩ | mH
   ·subst he;exact hy
   ·exact ih.1 p mH
  ·rcases xU hp with ⟨he,_⟩ | mH
   ·subst he;exact mem_cons_self
   ·exact dK _ (ih.2 p mH)
def Z3 (fr:List GV):Option Tmp->Bool
 | none=>true
 | some t=>ly fr t
def dW (P:Program) (Q:List GV->List Ob->Prop) (ol:List Oper) (i:Nat) (r:Ot) (bs:oa) (fr:List GV) (d:Option Tmp) (cV:List GV) (aZ:List Ob):Prop :=
 ∃ g eZ,cV=bR fr d g/\di P ol.toArray i aZ bs eZ/\GO P ol.toArray Q r eZ (bR fr d g) aZ
theorem GA.of {o:Oper} {Kt:GV->List Ob->Prop} {R:List GV->List Ob->Prop} {ops:Array Oper} (hg:o.guard=none) (hd:Z3 fr o.dst=true) (hR:∀ cV aZ,R cV aZ->∃ g,cV=bR fr o.dst g/\Kt g aZ) (h:GL P Γ.length ops (aU R (fun _ _ _=>False)) [o] fr Γ):GA P o Kt fr Γ:=fun B K β w l hI hF=>by
 have I:=h (cur K β Γ w) K β w l rfl hI.here hF;obtain ⟨d,op,ty,pos,af,gd⟩:=o;simp only at hg;subst hg;simp only at I hd;unfold WL wpList at I;rw [ah (by rfl)] at I
 rcases I with I | ⟨_,a0,w0,hf⟩
 ·rw [<-qN];refine abt I (fun c a w' hf=>?_) (fun a w' hf=>?_) ?_ ?_
  ·obtain ⟨l',_,_,_,_,_,_,_,hq⟩:=hf;exact hq
  ·obtain ⟨l',_,_,_,_,_,_,_,hq⟩:=hf;exact hq
  ·rintro v w' ⟨l',hl,K',b9,cV,aZ,bE,yL,hq⟩;obtain ⟨g,rfl,hk⟩:=hR cV aZ hq;rw [sJ] at hl
   have lH:put l d v=l':=by
    have:=congrArg (fun a:Act=>a.tmps.toList) hl;simpa [act] using this
   subst lH;refine ⟨K',b9,g,aZ,bE.kle,bE.ble,hI.Ti bE,fun Rz l2 G=>?_,hk⟩
   cases d with
   | none=>exact G
   | some t =>
    refine G.gJ t ?_;have hv:=yL.nth t;have h3:nth (put l (some t) v) t=v:=wh (qh hF hd) v
    have h4:dc (bR fr (some t) g) t=g:=by
     have gen:∀ (fr:List GV) (t:Nat),ly fr t=true->dc (bX fr t g) t=g:=by
      intro fr
      induction fr with
      | nil=>intro t h;cases h
      | cons x fr ih=>intro t h;cases t with | zero=>rfl | succ t=>exact ih t h
     exact gen fr t hd
    rw [h3,h4] at hv;exact hv
  ·rintro d' w' ⟨l',hl,_⟩;have:=congrArg (fun a:Act=>a.defers) hl
   cases d <;> simp [act,Act.put] at this
 ·obtain ⟨l',_,_,_,_,_,_,_,hq⟩:=hf;exact hq.elim
theorem dW.kt {cV:List GV} {aZ:List Ob} (h:dW P Q ol i r bs fr d cV aZ):∃ g,cV=bR fr d g/\((∀ p∈stay ol.toArray i bs,YQ P ol.toArray p.1 p.2.1 p.2.2 aZ)/\GO P ol.toArray Q r (stay ol.toArray i bs) (bR fr d g) aZ):=by
 obtain ⟨g,eZ,I,G,h3⟩:=h;obtain ⟨h4,h5⟩:=G.spec;exact ⟨g,I,h4,GO.more r _ _ _ _ (fun p hp=>.inl (h5 p hp)) h3⟩
theorem OA (hi:mC ol i=some ⟨d,op,ty,pos,af,none⟩) (hd:Z3 fr d=true) (h:GL P Γ.length ol.toArray (aU (dW P Q ol i r bs fr d) (fun _ _ _=>False)) [⟨d,op,ty,pos,af,none⟩] fr Γ):GO P ol.toArray Q (.a i r) bs fr Γ:=by
 refine ⟨_,true,uB hi,rfl,?_⟩
 exact (GA.of (o:=⟨d,op,ty,pos,af,none⟩) rfl hd (fun cV aZ hq=>dW.kt hq) h).mono fun g aZ ⟨I,G⟩=>⟨I,by rw [yE hi];exact G⟩
theorem Qs {c:Bool} (hi:mC ol i=some ⟨d,op,ty,pos,af,some gd⟩) (hd:Z3 fr d=true) (hv:qS ol fr gd.1=some (some c)) (hc:c=gd.2) (h:GL P Γ.length ol.toArray (aU (dW P Q ol i r bs fr d) (fun _ _ _=>False)) [⟨d,op,ty,pos,af,none⟩] fr Γ):GO P ol.toArray Q (.a i r) bs fr Γ:=by
 refine ⟨_,true,uB hi,rN hv hc,?_⟩
 have:=(GA.of (o:=⟨d,op,ty,pos,af,none⟩) rfl hd (fun cV aZ hq=>dW.kt hq) h).mono (IH:=fun g aZ=>(∀ p∈stay ol.toArray i bs,YQ P ol.toArray p.1 p.2.1 p.2.2 aZ)/\GO P ol.toArray Q r (stay ol.toArray i bs) (bR fr (og ol.toArray i) g) aZ) fun g aZ ⟨I,G⟩=>⟨I,by rw [yE hi];exact G⟩
 exact this
theorem OAf {c:Bool} {eZ:oa} (hi:mC ol i=some ⟨d,op,ty,pos,af,some gd⟩) (hv:qS ol fr gd.1=some (some c)) (hc:c=!gd.2) (hs:di P ol.toArray i Γ bs eZ) (h:GO P ol.toArray Q r eZ (bR fr d (.v undef)) Γ):GO P ol.toArray Q (.a i r) bs fr Γ :=
 ⟨_,false,uB hi,sy hv hc,hs.spec.1,by rw [yE hi];exact GO.more r _ _ _ _ (fun p hp=>.inl (hs.spec.2 p hp)) h⟩
theorem OAu {eZ:oa} (hi:mC ol i=some ⟨d,op,ty,pos,af,some gd⟩) (hv:qS ol fr gd.1=some none) (hs:di P ol.toArray i Γ bs eZ) (h:GO P ol.toArray Q r eZ (bR fr d (.v undef)) Γ):GO P ol.toArray Q (.a i r) bs fr Γ :=
 ⟨_,false,uB hi,aah hv,hs.spec.1,by rw [yE hi];exact GO.more r _ _ _ _ (fun p hp=>.inl (hs.spec.2 p hp)) h⟩
theorem GO.nil (h:Q fr Γ):GO P ol.toArray Q .nil bs fr Γ:=h
theorem dW.mk {eZ:oa} (hs:di P ol.toArray i Γ bs eZ) {rX:List GV} (h:GO P ol.toArray Q r eZ (bR rX d g) Γ):dW P Q ol i r bs rX d (bR rX d g) Γ:=⟨g,eZ,rfl,hs,h⟩
theorem lF {ops:Array Oper} {cV:List GV} {aZ:List Ob} (I:fr=cV) (G:Γ=aZ) (h:GO P ops Q r bs cV aZ):GO P ops Q r bs fr Γ:=by subst I;subst G;exact h
theorem GON {ops:Array Oper} {cV:List GV} (I:fr=cV) (h:GO P ops Q r bs cV Γ):GO P ops Q r bs fr Γ:=by subst I;exact h
end
theorem GW.range {P:Program} {m:Nat} {Q:eC} {fr:List GV} {Γ:List Ob} {B C r1 r2:Nat} {body:Code} {tb ti tn ta:Tmp} {T1 T2 T3 T4 T5 T6 T7:TypeId} {p1 p2 p3:String} {a1 a2 a3:Array Edge} (n:Nat) (aeI:Nat->List GV->List Ob->Prop)
  (h0:CM m (aeI 0) fr Γ) (hn:n<=1099511627776)
  (hI:∀ k fr Γ,aeI k fr Γ->dc fr ti=.v (ii k)/\dc fr tn=.v (ii n)/\ly fr tb=true)
  (abV:∀ k fr Γ,k < n->aeI k fr Γ->GW P m body (aW C (aU (fun cV aZ=>dc cV ti=.v (ii k)/\ly cV ta=true/\CM m (aeI (k+1)) (bX (bX cV ta (.v (ii ((k+1:Nat):Int)))) ti (.v (ii ((k+1:Nat):Int)))) aZ) (aW B Q))) (bX fr tb (.v (.bool true))) Γ)
  (sA:∀ fr Γ,aeI n fr Γ->Q .normal (bX fr tb (.v (.bool false))) Γ) :
  GW P m (.loop (.seq (.region r1 [(⟨some tb,.binOp .lss T1 (.tmp ti) (.tmp tn) T2,T3,p1,a1,none⟩:Oper)].toArray false) (.seq (.cond (.tmp tb) .skip (.exit B))
   (.seq (.block C body) (.region r2 [(⟨some ta,.binOp .add T4 (.tmp ti) (.const (.int .i64 1)) T5,T6,p2,a2,none⟩:Oper),⟨some ti,.move (.tmp ta),T7,p3,a3,none⟩].toArray false))))) (aW B Q) fr Γ:=by
 have wQ:∀ (fr:List GV) (t:Nat) (g:GV),ly fr t=true->dc (bX fr t g) t=g:=by
  intro fr
  induction fr with
  | nil=>intro t g h;cases h
  | cons x fr ih=>intro t g h;cases t with | zero=>rfl | succ t=>exact ih t g h
 refine GW.loop (fun k:Nat=>n - k) (fun k fr Γ=>k<=n/\aeI k fr Γ) 0 ?_ ?_
 ·obtain ⟨cV,aZ,hw,h⟩:=h0;exact ⟨cV,aZ,hw,aS _,h⟩
 rintro k fr Γ ⟨hk,hi⟩;obtain ⟨I,G,h3⟩:=hI k fr Γ hi;refine GW.seq (GW.region (GL.q (YG.go (v:=.bool (decide ((k:Int) < (n:Int)))) ?_) (GL.nil (bc ?_))))
 ·simp only [go2,Xw.go,bq,I,G,FT,OZ,ii,P0,O0]
 by_cases au:k < n
 ·have hd:decide ((k:Int) < (n:Int))=true:=by simpa using au
  simp only [bR,hd];refine GW.seq (Qo (wQ fr tb _ h3) rfl (GW.skip (bc (GW.seq (GW.block ?_)))));refine GW.mono (abV k fr Γ au hi) ?_;intro e cV aZ hq;have key:∀ cV aZ,(dc cV ti=.v (ii k)/\ly cV ta=true/\CM m (aeI (k+1)) (bX (bX cV ta (.v (ii ((k+1:Nat):Int)))) ti (.v (ii ((k+1:Nat):Int)))) aZ) ->
    GW P m (.region r2 [(⟨some ta,.binOp .add T4 (.tmp ti) (.const (.int .i64 1)) T5,T6,p2,a2,none⟩:Oper),⟨some ti,.move (.tmp ta),T7,p3,a3,none⟩].toArray false) (aU (fun cV aZ=>∃ y:Nat,CM m (fun fr Γ=>y<=n/\aeI y fr Γ) cV aZ/\n - y < n - k) (aW B Q)) cV aZ:=by
   rintro cV aZ ⟨h5,h6,Rz,Oj,hw,h7⟩;refine GW.region (GL.q (YG.kG (a:=k) h5 rfl zgb) (GL.q YG.mv (GL.nil (bc ⟨k+1,⟨Rz,Oj,?_,au,h7⟩,by omega⟩))));have h8:bq (bX cV ta (.v (ii ((k+1:Nat):Int)))) (.tmp ta)=.v (ii ((k+1:Nat):Int)):=wQ cV ta _ h6;simp only [bR,h8];exact hw
  cases e with
  | normal=>exact key cV aZ hq
  | exit id =>
   simp only [aW] at hq |-;split <;> rename_i hh
   ·rw [ah hh] at hq;exact key cV aZ hq
   ·rw [ab hh] at hq;exact hq
  | goto _=>exact hq
  | ret=>exact hq
  | panic _=>exact hq
  | outgrown=>exact hq
 ·have oV:k=n:=by omega
  have hd:decide ((k:Int) < (n:Int))=false:=by simpa using au
  simp only [bR,hd];refine GW.seq (Qn (wQ fr tb _ h3) rfl (GW.exit (JF (JF (MX ?_)))));subst oV;exact sA fr Γ hi
def pU (g g':GV):Prop:=∀ K β x,Rel K β x g->Rel K β x g'
def n9 (gs hs:List GV):Prop:=∀ K β vs,bC K β vs gs->bC K β vs hs
theorem pU.refl {g:GV}:pU g g:=fun _ _ _ h=>h
theorem pU.U {g:GV}:pU g .U:=fun _ _ _ _=>.U _
theorem pU.nil {k:Nat}:pU (.v (.slice none 0 0)) (.sl k []):=fun K β x h=>by
 rw [Rel.eJ h];exact .sl0 _ _ _
theorem n9.nil:n9 [] []:=fun _ _ _ h=>h
theorem n9.refl {gs:List GV}:n9 gs gs:=fun _ _ _ h=>h
theorem n9.cons {g h:GV} {gs hs:List GV} (I:pU g h) (G:n9 gs hs):n9 (g::gs) (h::hs):=fun K β vs hv=>by
 cases vs with
 | nil=>have:=hv.1;simp at this
 | cons v vs=>obtain ⟨a,b⟩:=hv.rj;exact .cons (I K β v a) (G K β vs b)
theorem pU.agg {gs hs:List GV} (h:n9 gs hs):pU (.agg gs) (.agg hs):=fun K β x hx=>by
 cases hx with
 | agg vs _ hl h'=>obtain ⟨a,b⟩:=h K β vs ⟨hl,h'⟩;exact .agg vs hs a b
theorem pU.tup {gs hs:List GV} (h:n9 gs hs):pU (.tup gs) (.tup hs):=fun K β x hx=>by
 cases hx with
 | tup vs _ hl h'=>obtain ⟨a,b⟩:=h K β vs ⟨hl,h'⟩;exact .tup vs hs a b
inductive ZF:List GV->List GV->Prop
 | nil:ZF [] []
 | cons {f g:GV} {fs gs:List GV} (h:pU f g) (t:ZF fs gs):ZF (f::fs) (g::gs)
section
variable {P:Program} {m:Nat} {Q:eC} {fr:List GV} {Γ:List Ob} {ops:Array Oper} {rest:List Oper} {d:Option Tmp} {op:Op} {ty:TypeId} {pos:String} {af:Array Edge}
theorem Wk.cells (i:Nat) {E:TypeId} {cs ds:List GV} (hi:Γ[i]?=some (.box E cs)) (h:n9 cs ds):Wk m fr Γ fr (oset Γ i (.box E ds)):=fun B K β w l _ hI hF=>by
 rw [bQ];refine ⟨K,β,⟨hI.ext,hI.kle,hI.ble,hI.loc,hI.fz,fun j x hj=>?_,fun j hj=>hI.out j zgp,hI.dis,hI.own,hI.kn,hI.tab⟩,hF⟩;rw [fb] at hj;split at hj
 ·rename_i fy;split at hj
  ·cases hj;subst fy
   obtain ⟨b,vs,I,G,h3,h4⟩:=hI.ob i _ hi;exact ⟨b,vs,I,G,h K β vs h3,h4⟩
  ·cases hj
 ·exact hI.ob j x hj
theorem GL.OJ {f:FuncId} [hf:aO P f] (aY:List Nat) {args:List Operand} {rJ:Array TypeId} {gs:List GV} {kx:List Ob} {R:GV->List Ob->Prop} (hc:GC P f gs kx R) (ha:n9 (args.map (bq fr)) (pb (cY aY Γ.length) gs)) (fA:lV aY Γ.length=true)
  (bH:seen (cY aY Γ.length) Γ aY kx) (h:∀ g aZ,R g aZ->aY.length<=aZ.length/\GL P m ops Q rest (bR fr d (fc (cY aY Γ.length) g)) (fS Γ aY (aZ.map (Ob.fc (cY aY Γ.length))))) :
  GL P m ops Q (⟨d,.call ⟨.value (.func f),args.toArray,rJ⟩,ty,pos,af,none⟩::rest) fr Γ :=
 GL.calls (vs:=fun l=>args.map (ev l)) (fun K β w l hF=>⟨ha K β _ (hF.args args),by simp [execOp,resolve,ev,Deferred.ofValue,invoke,rh]⟩) fA bH hc h
theorem GL.Wz {f:FuncId} [hf:aO P f] (aY:List Nat) {args:List Operand} {rJ:Array TypeId} {gs:List GV} {kx uV:List Ob} {g:GV} (hc:GF P f gs kx g uV) (ha:n9 (args.map (bq fr)) (pb (cY aY Γ.length) gs)) (fA:lV aY Γ.length=true)
  (bH:seen (cY aY Γ.length) Γ aY kx) (hl:Nat.ble aY.length uV.length=true) (h:GL P m ops Q rest (bR fr d (fc (cY aY Γ.length) g)) (fS Γ aY (uV.map (Ob.fc (cY aY Γ.length))))) :
  GL P m ops Q (⟨d,.call ⟨.value (.func f),args.toArray,rJ⟩,ty,pos,af,none⟩::rest) fr Γ :=
 GL.OJ aY hc ha fA bH fun g' aZ ⟨I,G⟩=>by subst I;subst G;exact ⟨by simpa using hl,h⟩
end
section
variable {P:Program} {fr:List GV} {Γ:List Ob} {g:GV}
theorem K.bin {o:BinOp} {t t':TypeId} {x y:Operand} (h:YG P (.binOp o t x y t') fr Γ g):YG P (.binOp o t x y t') fr Γ g:=h
theorem K.ld {t:TypeId} {x:Operand} (h:YG P (.load t x) fr Γ g):YG P (.load t x) fr Γ g:=h
theorem K.fld {t:TypeId} {x:Operand} {i:Nat} (h:YG P (.fieldAddr t x i) fr Γ g):YG P (.fieldAddr t x i) fr Γ g:=h
theorem K.len {t:TypeId} {x:Operand} (h:YG P (.call ⟨.builtin .len,#[x],#[t]⟩) fr Γ g):YG P (.call ⟨.builtin .len,#[x],#[t]⟩) fr Γ g:=h
theorem K.nck {x:Operand} (h:YG P (.nilCheck x) fr Γ g):YG P (.nilCheck x) fr Γ g:=h
theorem K.idx {t:TypeId} {x y:Operand} (h:YG P (.indexAddr t x y) fr Γ g):YG P (.indexAddr t x y) fr Γ g:=h
theorem K.pick {a b c:Operand} (h:YG P (.pick a b c) fr Γ g):YG P (.pick a b c) fr Γ g:=h
theorem K.qm {t:TypeId} {x:Operand} {a b c:Option Operand} (h:YG P (.slice t x a b c) fr Γ g):YG P (.slice t x a b c) fr Γ g:=h
theorem K.F7 {f:Fn} {a b:Array Operand} (h:YG P (.makeFunc f a b) fr Γ g):YG P (.makeFunc f a b) fr Γ g:=h
end
section
variable {P:Program} {fn:Func} {m:Nat} {fr:List GV} {Γ aZ:List Ob} {e:Exit} {g:GV}
theorem A8 {R:GV->List Ob->Prop} (h:wL P fn m (fun x Δ=>∃ y,pU x y/\R y Δ) e fr Γ):wL P fn m R e fr Γ :=
 ⟨h.1,fun B K β w l hm hI hF=>by
  obtain ⟨v,K',b9,x,Δ,I,G,h3,y,h4,h5⟩:=h.2 B K β w l hm hI hF
  exact ⟨v,K',b9,y,Δ,I,G,h4 _ _ _ h3,h5⟩⟩
end
end Go.Xg
